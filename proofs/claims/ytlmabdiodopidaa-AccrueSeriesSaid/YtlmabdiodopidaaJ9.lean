/- Texts of this seat, joined: Px23, Px24, Px25. Lemmas for the claim's theorem. -/
import Derived.Test.YtlmabdiodopidaaJ8
section
set_option linter.unusedVariables false
set_option linter.unusedSimpArgs false
namespace Go.Proofs.Ytlmabdiodopidaa.P
open Go.Proofs.Ytlmabdiodopidaa.G
attribute [local go_sem high] un_not64 un_noti run_add64
open Go.RowKit Go.Proofs.YtlmabdiodopidaaW.PrintWords Go.Proofs.YtlmabdiodopidaaW.PrintLast Go.Proofs.YtlmabdiodopidaaW.PrintMore
attribute [local go_sem] max2_int min2_int max_two min_two max_three min_three max_four min_four   -- for this text's walks alone
set_option linter.unusedVariables false
set_option linter.unusedSimpArgs false

/-! ### corebankref01_Join: function 69 -/
def corebankref01_Join.f (a0 : Bool) (a1_0 : Int) (a1_1 : Int) : Option (Int × Int × Bool) := if a0 = true then (if (IntKind.u64.wrap ((not64 a1_1) + 1)) = 0 then (if a1_0 < 9223372036854775808 then (some (wrap64 (IntKind.u64.wrap ((not64 a1_0) + 1)), IntKind.u64.wrap ((not64 a1_1) + 1), true)) else (if a1_0 = 9223372036854775808 then (some (wrap64 (IntKind.u64.wrap ((not64 a1_0) + 1)), IntKind.u64.wrap ((not64 a1_1) + 1), (a1_1 == 0))) else (some (wrap64 (IntKind.u64.wrap ((not64 a1_0) + 1)), IntKind.u64.wrap ((not64 a1_1) + 1), false)))) else (if a1_0 < 9223372036854775808 then (some (wrap64 (not64 a1_0), IntKind.u64.wrap ((not64 a1_1) + 1), true)) else (if a1_0 = 9223372036854775808 then (some (wrap64 (not64 a1_0), IntKind.u64.wrap ((not64 a1_1) + 1), (a1_1 == 0))) else (some (wrap64 (not64 a1_0), IntKind.u64.wrap ((not64 a1_1) + 1), false))))) else (some (wrap64 (a1_0), a1_1, decide (a1_0 < 9223372036854775808)))
def corebankref01_Join.T2 : Bool × List (List Nat × List Nat) := (true, [([], []), ([0], [0]), ([1], [1]), ([], []), ([3], [3]), ([2, 4], [2, 4]), ([], []), ([6], [6]), ([7], [7]), ([5, 0, 1, 2, 3, 4, 5], [5]), ([8, 9, 0, 1, 2, 3, 4, 5, 6, 7, 8, 9], [8])])
def corebankref01_Join.B2 : List Nat := [0, 1, 3, 0, 8, 31, 0, 64, 192, 63, 1023]
theorem corebankref01_Join.tab2 : rtab .any (opsOf Try.f69 2) = corebankref01_Join.T2 := by kernel_rfl
theorem corebankref01_Join.bits2 : waitsOk corebankref01_Join.T2.2 corebankref01_Join.B2 = true := by kernel_rfl
def corebankref01_Join.T3 : Bool × List (List Nat × List Nat) := (true, [([], []), ([0], [0]), ([1], [1]), ([2], [2]), ([], []), ([4], [4]), ([5], [5]), ([3, 0, 1, 2, 3], [3]), ([6, 7, 0, 1, 2, 3, 4, 5, 6, 7], [6])])
def corebankref01_Join.B3 : List Nat := [0, 1, 3, 7, 0, 16, 48, 15, 255]
theorem corebankref01_Join.tab3 : rtab .any (opsOf Try.f69 3) = corebankref01_Join.T3 := by kernel_rfl
theorem corebankref01_Join.bits3 : waitsOk corebankref01_Join.T3.2 corebankref01_Join.B3 = true := by kernel_rfl
def corebankref01_Join.T6 : Bool × List (List Nat × List Nat) := (true, [([], []), ([0], [0]), ([], []), ([1, 2], [1, 2]), ([], []), ([4], [4]), ([5], [5]), ([6], [6]), ([7], [7]), ([8, 7], [7, 8]), ([9, 7], [7, 9]), ([10, 7, 7], [7, 10]), ([11], [11]), ([12, 11], [11, 12]), ([13, 11], [11, 13]), ([11, 14, 7], [7, 11, 14]), ([7, 15], [7, 15]), ([3, 11, 0, 1, 2, 3], [3]), ([16, 17, 0, 1, 2, 3, 4, 5, 6, 7, 8, 9, 10, 11, 12, 13, 14, 15, 16, 17], [16])])
def corebankref01_Join.B6 : List Nat := [0, 1, 0, 7, 0, 16, 48, 112, 240, 496, 1008, 2032, 4080, 8176, 16368, 32752, 65520, 4095, 262143]
theorem corebankref01_Join.tab6 : rtab .any (opsOf Try.f69 6) = corebankref01_Join.T6 := by kernel_rfl
theorem corebankref01_Join.bits6 : waitsOk corebankref01_Join.T6.2 corebankref01_Join.B6 = true := by kernel_rfl
set_option maxHeartbeats 8000000 in
set_option maxRecDepth 100000 in
theorem corebankref01_Join.calls (a0 : Bool) (a1_0 : Int) (a1_1 : Int) (r1 : Int) (r2 : Int) (r3 : Bool) (w : World) (h : corebankref01_Join.f a0 a1_0 a1_1 = some (r1, r2, r3)) :
    Calls Try.prog 69 #[.bool a0, .agg #[.int .u64 a1_0, .int .u64 a1_1]] w fun e w' => e = .returned (.tuple #[.agg #[.int .i64 r1, .int .u64 r2], .bool r3]) ∧ Below w.heap.size w w' := by
  have hu89 := Try.underlying89
  have hu35 := Try.underlying35
  have HB := Aside0.mk (Below.refl w.heap.size w)
  have H : (if a0 = true then (if (IntKind.u64.wrap ((not64 a1_1) + 1)) = 0 then (if a1_0 < 9223372036854775808 then (some (wrap64 (IntKind.u64.wrap ((not64 a1_0) + 1)), IntKind.u64.wrap ((not64 a1_1) + 1), true)) else (if a1_0 = 9223372036854775808 then (some (wrap64 (IntKind.u64.wrap ((not64 a1_0) + 1)), IntKind.u64.wrap ((not64 a1_1) + 1), (a1_1 == 0))) else (some (wrap64 (IntKind.u64.wrap ((not64 a1_0) + 1)), IntKind.u64.wrap ((not64 a1_1) + 1), false)))) else (if a1_0 < 9223372036854775808 then (some (wrap64 (not64 a1_0), IntKind.u64.wrap ((not64 a1_1) + 1), true)) else (if a1_0 = 9223372036854775808 then (some (wrap64 (not64 a1_0), IntKind.u64.wrap ((not64 a1_1) + 1), (a1_1 == 0))) else (some (wrap64 (not64 a1_0), IntKind.u64.wrap ((not64 a1_1) + 1), false))))) else (some (wrap64 (a1_0), a1_1, decide (a1_0 < 9223372036854775808)))) = some (r1, r2, r3) := h
  clear h
  by_cases c3 : a0 = true
  · subst c3
    have H1 : (if (IntKind.u64.wrap ((not64 a1_1) + 1)) = 0 then (if a1_0 < 9223372036854775808 then (some (wrap64 (IntKind.u64.wrap ((not64 a1_0) + 1)), IntKind.u64.wrap ((not64 a1_1) + 1), true)) else (if a1_0 = 9223372036854775808 then (some (wrap64 (IntKind.u64.wrap ((not64 a1_0) + 1)), IntKind.u64.wrap ((not64 a1_1) + 1), (a1_1 == 0))) else (some (wrap64 (IntKind.u64.wrap ((not64 a1_0) + 1)), IntKind.u64.wrap ((not64 a1_1) + 1), false)))) else (if a1_0 < 9223372036854775808 then (some (wrap64 (not64 a1_0), IntKind.u64.wrap ((not64 a1_1) + 1), true)) else (if a1_0 = 9223372036854775808 then (some (wrap64 (not64 a1_0), IntKind.u64.wrap ((not64 a1_1) + 1), (a1_1 == 0))) else (some (wrap64 (not64 a1_0), IntKind.u64.wrap ((not64 a1_1) + 1), false))))) = some (r1, r2, r3) := by rw [if_pos rfl] at H; exact H
    clear H
    have H := H1
    clear H1
    by_cases c4 : (IntKind.u64.wrap ((not64 a1_1) + 1)) = 0
    · rw [if_pos c4] at H
      have c4b0 : ((IntKind.u64.wrap ((not64 a1_1) + 1)) == 0) = true := beq_iff_eq.mpr c4
      have c4b1 : ((IntKind.u64.wrap ((not64 a1_1) + 1)) != 0) = false := bne_eq_false_iff_eq.mpr c4
      clear c4
      by_cases c5 : a1_0 < 9223372036854775808
      · rw [if_pos c5] at H
        have c5b0 : decide (a1_0 < 9223372036854775808) = true := decide_eq_true c5
        clear c5
        simp only [Option.some.injEq, Prod.mk.injEq] at H
        obtain ⟨rfl, rfl, rfl⟩ := H
        go_enter Try.func69, Try.ntmps69
        try go_wp2_with (first | ((with_reducible refine gate_dst (N := 3) rfl ?_); refine box_event ?hg (N := 3) ?hd (cs := #[.int .u64 a1_0, .int .u64 a1_1]) (t := 89) ?hr ?_; (case hd => rfl); (case hg => rfl); (case hr => first | (go_simp; done) | (go_simp; rfl)); intro gb294 hg w6 hbox hb; have BK294 := Aside0.mk (hbox); have GW294 := ge HB hg; have GE294 := ge HB hg; replace HB := bs HB hb; clear hb hbox hg) | ((with_reducible refine gate_dst (N := 4) rfl ?_); refine box_event ?hg (N := 4) ?hd (cs := #[.int .i64 0, .int .u64 0]) (t := 35) ?hr ?_; (case hd => rfl); (case hg => rfl); (case hr => first | (go_simp; done) | (go_simp; rfl)); intro gb295 hg w7 hbox hb; have BK295 := Aside0.mk (hbox); have GW295 := ge HB hg; have GE295 := ge HB hg; have NB294_295 := nl BK294 hg; have NB295_294 := ng NB294_295; replace BK294 := bb BK294 hb; replace HB := bs HB hb; clear hb hbox hg))
        replace BK294 := bd1 BK294
        replace BK295 := bd1 BK295
        replace HB := hb1 HB
        refine start_ (n := 9) (S := fun w' => w'.cell? ⟨gb294, 0, none⟩ = some (.int .u64 a1_0) ∧ w'.cell? ⟨gb294, 1, none⟩ = some (.int .u64 a1_1)) (ds := []) #[false, false, false, false, false, false, false, false, false] (by kernel_rfl) rfl rfl ⟨(blk_cell BK294.out 0).trans rfl, (blk_cell BK294.out 1).trans rfl⟩ (fun hHeld => ?_); refine with_tabW corebankref01_Join.tab3 corebankref01_Join.bits3 (fun HT_ HW_ => ?_)
        generalize w7.drew = w8 at BK294 BK295 HB hHeld ⊢
        refine pz (i := 0) (N := some 19) #[true, false, false, false, false, false, false, false, false] rfl rfl (any_of HT_.out (by kernel_rfl)) (fun _ _ _ h => h) ?_
        refine pz (i := 4) (N := some 23) #[true, false, false, false, true, false, false, false, false] rfl rfl (any_of HT_.out (by kernel_rfl)) (fun _ _ _ h => h) ?_
        refine tz2 (i := 1) (N := some 20) #[true, true, false, false, true, false, false, false, false] rfl rfl (take_ofW HT_.out HW_.out (by kernel_rfl)) (fun _ _ _ h => h) hHeld ?_
        refine pz (i := 2) (N := some 21) #[true, true, true, false, true, false, false, false, false] rfl rfl (any_of HT_.out (by kernel_rfl)) (fun _ _ _ h => h) ?_
        refine pz (i := 3) (N := some 22) #[true, true, true, true, true, false, false, false, false] rfl rfl (any_of HT_.out (by kernel_rfl)) (fun _ _ _ h => h) ?_
        refine pz (i := 7) (N := some 6) #[true, true, true, true, true, false, false, true, false] rfl rfl (any_of HT_.out (by kernel_rfl)) (fun _ _ _ h => h) ?_
        refine tz2 (i := 5) (N := some 24) #[true, true, true, true, true, true, false, true, false] rfl rfl (take_ofW HT_.out HW_.out (by kernel_rfl)) (fun _ _ _ h => h) hHeld ?_
        refine pz (i := 6) (N := some 25) #[true, true, true, true, true, true, true, true, false] rfl rfl (any_of HT_.out (by kernel_rfl)) (fun _ _ _ h => h) ?_
        refine pz (i := 8) (N := some 7) #[true, true, true, true, true, true, true, true, true] rfl rfl (any_of HT_.out (by kernel_rfl)) (fun _ _ _ h => h) ?_
        refine done_ (done_of HT_.out (by kernel_rfl)) ?_
        try go_wp2
        replace BK294 := bd1 BK294
        replace BK295 := bd1 BK295
        replace HB := hb1 HB
        refine start_ (n := 19) (S := fun w' => w'.cell? ⟨gb294, 0, none⟩ = some (.int .u64 a1_0) ∧ w'.cell? ⟨gb294, 1, none⟩ = some (.int .u64 a1_1)) (ds := []) #[false, false, false, false, false, false, false, false, false, false, false, false, false, false, false, false, false, false, false] (by kernel_rfl) rfl rfl ⟨(blk_cell BK294.out 0).trans rfl, (blk_cell BK294.out 1).trans rfl⟩ (fun hHeld => ?_); refine with_tabW corebankref01_Join.tab6 corebankref01_Join.bits6 (fun HT_ HW_ => ?_)
        generalize w8.drew = w9 at BK294 BK295 HB hHeld ⊢
        refine pz (i := 0) (N := some 30) #[true, false, false, false, false, false, false, false, false, false, false, false, false, false, false, false, false, false, false] rfl rfl (any_of HT_.out (by kernel_rfl)) (fun _ _ _ h => h) ?_
        refine pz (i := 1) (N := some 31) #[true, true, false, false, false, false, false, false, false, false, false, false, false, false, false, false, false, false, false] rfl rfl (any_of HT_.out (by kernel_rfl)) (fun _ _ _ h => h) ?_
        refine pz (i := 2) (N := some 32) #[true, true, true, false, false, false, false, false, false, false, false, false, false, false, false, false, false, false, false] rfl rfl (any_of HT_.out (by kernel_rfl)) (fun _ _ _ h => h) ?_
        refine pz (i := 3) (N := some 33) #[true, true, true, true, false, false, false, false, false, false, false, false, false, false, false, false, false, false, false] rfl rfl (any_of HT_.out (by kernel_rfl)) (fun _ _ _ h => h) ?_
        refine pz (i := 4) (N := some 34) #[true, true, true, true, true, false, false, false, false, false, false, false, false, false, false, false, false, false, false] rfl rfl (any_of HT_.out (by kernel_rfl)) (fun _ _ _ h => h) ?_
        refine tz2 (i := 5) (N := some 35) #[true, true, true, true, true, true, false, false, false, false, false, false, false, false, false, false, false, false, false] rfl rfl (take_ofW HT_.out HW_.out (by kernel_rfl)) (fun _ _ _ h => h) hHeld ?_
        refine pz (i := 6) (N := some 36) #[true, true, true, true, true, true, true, false, false, false, false, false, false, false, false, false, false, false, false] rfl rfl (any_of HT_.out (by kernel_rfl)) (fun _ _ _ h => h) ?_
        refine pz (i := 7) (N := some 37) #[true, true, true, true, true, true, true, true, false, false, false, false, false, false, false, false, false, false, false] rfl rfl (any_of HT_.out (by kernel_rfl)) (fun _ _ _ h => h) ?_
        refine pure_ (i := 8) (N := some 38) (v := undef) (a' := ?_) #[true, true, true, true, true, true, true, true, true, false, false, false, false, false, false, false, false, false, false] rfl rfl (any_of HT_.out (by kernel_rfl)) (fun _ _ _ h => h) (Or.inr ⟨by rfl, rfl⟩) ?_ ?_
        rotate_left
        · simp only [Act.put, List.setIfInBounds_toArray, List.set_cons_zero, List.set_cons_succ, i64_w, i32_w]
          rfl
        refine pure_ (i := 9) (N := some 39) (v := undef) (a' := ?_) #[true, true, true, true, true, true, true, true, true, true, false, false, false, false, false, false, false, false, false] rfl rfl (any_of HT_.out (by kernel_rfl)) (fun _ _ _ h => h) (Or.inr ⟨by rfl, rfl⟩) ?_ ?_
        rotate_left
        · simp only [Act.put, List.setIfInBounds_toArray, List.set_cons_zero, List.set_cons_succ, i64_w, i32_w]
          rfl
        refine pure_ (i := 10) (N := some 40) (v := undef) (a' := ?_) #[true, true, true, true, true, true, true, true, true, true, true, false, false, false, false, false, false, false, false] rfl rfl (any_of HT_.out (by kernel_rfl)) (fun _ _ _ h => h) (Or.inr ⟨by rfl, rfl⟩) ?_ ?_
        rotate_left
        · simp only [Act.put, List.setIfInBounds_toArray, List.set_cons_zero, List.set_cons_succ, i64_w, i32_w]
          rfl
        refine pure_ (i := 11) (N := some 41) (v := undef) (a' := ?_) #[true, true, true, true, true, true, true, true, true, true, true, true, false, false, false, false, false, false, false] rfl rfl (any_of HT_.out (by kernel_rfl)) (fun _ _ _ h => h) (Or.inr ⟨by rfl, rfl⟩) ?_ ?_
        rotate_left
        · simp only [Act.put, List.setIfInBounds_toArray, List.set_cons_zero, List.set_cons_succ, i64_w, i32_w]
          rfl
        refine pure_ (i := 12) (N := some 42) (v := undef) (a' := ?_) #[true, true, true, true, true, true, true, true, true, true, true, true, true, false, false, false, false, false, false] rfl rfl (any_of HT_.out (by kernel_rfl)) (fun _ _ _ h => h) (Or.inr ⟨by rfl, rfl⟩) ?_ ?_
        rotate_left
        · simp only [Act.put, List.setIfInBounds_toArray, List.set_cons_zero, List.set_cons_succ, i64_w, i32_w]
          rfl
        refine pure_ (i := 13) (N := some 43) (v := undef) (a' := ?_) #[true, true, true, true, true, true, true, true, true, true, true, true, true, true, false, false, false, false, false] rfl rfl (any_of HT_.out (by kernel_rfl)) (fun _ _ _ h => h) (Or.inr ⟨by rfl, rfl⟩) ?_ ?_
        rotate_left
        · simp only [Act.put, List.setIfInBounds_toArray, List.set_cons_zero, List.set_cons_succ, i64_w, i32_w]
          rfl
        refine pure_ (i := 14) (N := some 44) (v := undef) (a' := ?_) #[true, true, true, true, true, true, true, true, true, true, true, true, true, true, true, false, false, false, false] rfl rfl (any_of HT_.out (by kernel_rfl)) (fun _ _ _ h => h) (Or.inr ⟨by rfl, rfl⟩) ?_ ?_
        rotate_left
        · simp only [Act.put, List.setIfInBounds_toArray, List.set_cons_zero, List.set_cons_succ, i64_w, i32_w]
          rfl
        refine pure_ (i := 15) (N := some 45) (v := undef) (a' := ?_) #[true, true, true, true, true, true, true, true, true, true, true, true, true, true, true, true, false, false, false] rfl rfl (any_of HT_.out (by kernel_rfl)) (fun _ _ _ h => h) (Or.inr ⟨by rfl, rfl⟩) ?_ ?_
        rotate_left
        · simp only [Act.put, List.setIfInBounds_toArray, List.set_cons_zero, List.set_cons_succ, i64_w, i32_w]
          rfl
        refine pz (i := 16) (N := some 46) #[true, true, true, true, true, true, true, true, true, true, true, true, true, true, true, true, true, false, false] rfl rfl (any_of HT_.out (by kernel_rfl)) (fun _ _ _ h => h) ?_
        refine one_ (i := 17) (N := none) #[true, true, true, true, true, true, true, true, true, true, true, true, true, true, true, true, true, true, false] rfl rfl (one_of HT_.out (by kernel_rfl)) (by decide) (fun K hK => ?_)
        have hs10 : w9.cell? ⟨gb295, 0, none⟩ = some (.int .i64 0) := (blk_cell BK295.out 0).trans rfl
        have hfs10 := blk_frozen BK295.out 0
        have hns10_0 := NB294_295.out
        have hms10_0 := NB295_294.out
        have hs11 : w9.cell? ⟨gb295, 1, none⟩ = some (.int .u64 0) := (blk_cell BK295.out 1).trans rfl
        have hfs11 := blk_frozen BK295.out 1
        have hns11_0 := NB294_295.out
        have hms11_0 := NB295_294.out
        refine skip_ (w1 := ?_) (by rfl) rfl ?_ ?_
        rotate_left
        · go_simp
          rfl
        refine hK.out _ _ ⟨((cell_far (p := ⟨gb295, _, none⟩) NB294_295.out _).trans (((cell_far (p := ⟨gb295, _, none⟩) NB294_295.out _).trans (hHeld.1)))), ((cell_far (p := ⟨gb295, _, none⟩) NB294_295.out _).trans (((cell_far (p := ⟨gb295, _, none⟩) NB294_295.out _).trans (hHeld.2))))⟩ (fun hHeld => ?_)
        clear hK K
        refine pz (i := 18) (N := some 5) #[true, true, true, true, true, true, true, true, true, true, true, true, true, true, true, true, true, true, true] rfl rfl (any_of HT_.out (by kernel_rfl)) (fun _ _ _ h => h) ?_
        refine done_ (done_of HT_.out (by kernel_rfl)) ?_
        try go_wp2
        refine bodyPost_ret (results_ct rfl _ _ gb295 35 #[.int .i64 (wrap64 (IntKind.u64.wrap ((not64 a1_0) + 1))), .int .u64 (IntKind.u64.wrap ((not64 a1_1) + 1))] (0, 0) _ rfl (bp BK295) Try.underlying35 rfl (by kernel_rfl)) rfl ?_
        exact ⟨by first | rfl | (simp [errW_none, errW_some] <;> rfl) | (simp [*, errW_none, errW_some] <;> rfl), hq HB⟩
      · rw [if_neg c5] at H
        have c5b0 : decide (a1_0 < 9223372036854775808) = false := decide_eq_false c5
        clear c5
        by_cases c12 : a1_0 = 9223372036854775808
        · rw [if_pos c12] at H
          have c12b0 : (a1_0 == 9223372036854775808) = true := beq_iff_eq.mpr c12
          have c12b1 : (a1_0 != 9223372036854775808) = false := bne_eq_false_iff_eq.mpr c12
          clear c12
          simp only [Option.some.injEq, Prod.mk.injEq] at H
          obtain ⟨rfl, rfl, rfl⟩ := H
          go_enter Try.func69, Try.ntmps69
          try go_wp2_with (first | ((with_reducible refine gate_dst (N := 3) rfl ?_); refine box_event ?hg (N := 3) ?hd (cs := #[.int .u64 a1_0, .int .u64 a1_1]) (t := 89) ?hr ?_; (case hd => rfl); (case hg => rfl); (case hr => first | (go_simp; done) | (go_simp; rfl)); intro gb294 hg w13 hbox hb; have BK294 := Aside0.mk (hbox); have GW294 := ge HB hg; have GE294 := ge HB hg; replace HB := bs HB hb; clear hb hbox hg) | ((with_reducible refine gate_dst (N := 4) rfl ?_); refine box_event ?hg (N := 4) ?hd (cs := #[.int .i64 0, .int .u64 0]) (t := 35) ?hr ?_; (case hd => rfl); (case hg => rfl); (case hr => first | (go_simp; done) | (go_simp; rfl)); intro gb295 hg w14 hbox hb; have BK295 := Aside0.mk (hbox); have GW295 := ge HB hg; have GE295 := ge HB hg; have NB294_295 := nl BK294 hg; have NB295_294 := ng NB294_295; replace BK294 := bb BK294 hb; replace HB := bs HB hb; clear hb hbox hg))
          replace BK294 := bd1 BK294
          replace BK295 := bd1 BK295
          replace HB := hb1 HB
          refine start_ (n := 9) (S := fun w' => w'.cell? ⟨gb294, 0, none⟩ = some (.int .u64 a1_0) ∧ w'.cell? ⟨gb294, 1, none⟩ = some (.int .u64 a1_1)) (ds := []) #[false, false, false, false, false, false, false, false, false] (by kernel_rfl) rfl rfl ⟨(blk_cell BK294.out 0).trans rfl, (blk_cell BK294.out 1).trans rfl⟩ (fun hHeld => ?_); refine with_tabW corebankref01_Join.tab3 corebankref01_Join.bits3 (fun HT_ HW_ => ?_)
          generalize w14.drew = w15 at BK294 BK295 HB hHeld ⊢
          refine pz (i := 0) (N := some 19) #[true, false, false, false, false, false, false, false, false] rfl rfl (any_of HT_.out (by kernel_rfl)) (fun _ _ _ h => h) ?_
          refine pz (i := 4) (N := some 23) #[true, false, false, false, true, false, false, false, false] rfl rfl (any_of HT_.out (by kernel_rfl)) (fun _ _ _ h => h) ?_
          refine tz2 (i := 1) (N := some 20) #[true, true, false, false, true, false, false, false, false] rfl rfl (take_ofW HT_.out HW_.out (by kernel_rfl)) (fun _ _ _ h => h) hHeld ?_
          refine pz (i := 2) (N := some 21) #[true, true, true, false, true, false, false, false, false] rfl rfl (any_of HT_.out (by kernel_rfl)) (fun _ _ _ h => h) ?_
          refine pz (i := 3) (N := some 22) #[true, true, true, true, true, false, false, false, false] rfl rfl (any_of HT_.out (by kernel_rfl)) (fun _ _ _ h => h) ?_
          refine pz (i := 7) (N := some 6) #[true, true, true, true, true, false, false, true, false] rfl rfl (any_of HT_.out (by kernel_rfl)) (fun _ _ _ h => h) ?_
          refine tz2 (i := 5) (N := some 24) #[true, true, true, true, true, true, false, true, false] rfl rfl (take_ofW HT_.out HW_.out (by kernel_rfl)) (fun _ _ _ h => h) hHeld ?_
          refine pz (i := 6) (N := some 25) #[true, true, true, true, true, true, true, true, false] rfl rfl (any_of HT_.out (by kernel_rfl)) (fun _ _ _ h => h) ?_
          refine pz (i := 8) (N := some 7) #[true, true, true, true, true, true, true, true, true] rfl rfl (any_of HT_.out (by kernel_rfl)) (fun _ _ _ h => h) ?_
          refine done_ (done_of HT_.out (by kernel_rfl)) ?_
          try go_wp2
          replace BK294 := bd1 BK294
          replace BK295 := bd1 BK295
          replace HB := hb1 HB
          refine start_ (n := 19) (S := fun w' => w'.cell? ⟨gb294, 0, none⟩ = some (.int .u64 a1_0) ∧ w'.cell? ⟨gb294, 1, none⟩ = some (.int .u64 a1_1)) (ds := []) #[false, false, false, false, false, false, false, false, false, false, false, false, false, false, false, false, false, false, false] (by kernel_rfl) rfl rfl ⟨(blk_cell BK294.out 0).trans rfl, (blk_cell BK294.out 1).trans rfl⟩ (fun hHeld => ?_); refine with_tabW corebankref01_Join.tab6 corebankref01_Join.bits6 (fun HT_ HW_ => ?_)
          generalize w15.drew = w16 at BK294 BK295 HB hHeld ⊢
          refine pz (i := 0) (N := some 30) #[true, false, false, false, false, false, false, false, false, false, false, false, false, false, false, false, false, false, false] rfl rfl (any_of HT_.out (by kernel_rfl)) (fun _ _ _ h => h) ?_
          refine pz (i := 1) (N := some 31) #[true, true, false, false, false, false, false, false, false, false, false, false, false, false, false, false, false, false, false] rfl rfl (any_of HT_.out (by kernel_rfl)) (fun _ _ _ h => h) ?_
          refine pz (i := 2) (N := some 32) #[true, true, true, false, false, false, false, false, false, false, false, false, false, false, false, false, false, false, false] rfl rfl (any_of HT_.out (by kernel_rfl)) (fun _ _ _ h => h) ?_
          refine pz (i := 3) (N := some 33) #[true, true, true, true, false, false, false, false, false, false, false, false, false, false, false, false, false, false, false] rfl rfl (any_of HT_.out (by kernel_rfl)) (fun _ _ _ h => h) ?_
          refine pz (i := 4) (N := some 34) #[true, true, true, true, true, false, false, false, false, false, false, false, false, false, false, false, false, false, false] rfl rfl (any_of HT_.out (by kernel_rfl)) (fun _ _ _ h => h) ?_
          refine tz2 (i := 5) (N := some 35) #[true, true, true, true, true, true, false, false, false, false, false, false, false, false, false, false, false, false, false] rfl rfl (take_ofW HT_.out HW_.out (by kernel_rfl)) (fun _ _ _ h => h) hHeld ?_
          refine pz (i := 6) (N := some 36) #[true, true, true, true, true, true, true, false, false, false, false, false, false, false, false, false, false, false, false] rfl rfl (any_of HT_.out (by kernel_rfl)) (fun _ _ _ h => h) ?_
          refine pz (i := 7) (N := some 37) #[true, true, true, true, true, true, true, true, false, false, false, false, false, false, false, false, false, false, false] rfl rfl (any_of HT_.out (by kernel_rfl)) (fun _ _ _ h => h) ?_
          refine pz (i := 8) (N := some 38) #[true, true, true, true, true, true, true, true, true, false, false, false, false, false, false, false, false, false, false] rfl rfl (any_of HT_.out (by kernel_rfl)) (fun _ _ _ h => h) ?_
          refine tz2 (i := 9) (N := some 39) #[true, true, true, true, true, true, true, true, true, true, false, false, false, false, false, false, false, false, false] rfl rfl (take_ofW HT_.out HW_.out (by kernel_rfl)) (fun _ _ _ h => h) hHeld ?_
          refine pz (i := 10) (N := some 40) #[true, true, true, true, true, true, true, true, true, true, true, false, false, false, false, false, false, false, false] rfl rfl (any_of HT_.out (by kernel_rfl)) (fun _ _ _ h => h) ?_
          refine pz (i := 11) (N := some 41) #[true, true, true, true, true, true, true, true, true, true, true, true, false, false, false, false, false, false, false] rfl rfl (any_of HT_.out (by kernel_rfl)) (fun _ _ _ h => h) ?_
          refine pz (i := 12) (N := some 42) #[true, true, true, true, true, true, true, true, true, true, true, true, true, false, false, false, false, false, false] rfl rfl (any_of HT_.out (by kernel_rfl)) (fun _ _ _ h => h) ?_
          refine tz2 (i := 13) (N := some 43) #[true, true, true, true, true, true, true, true, true, true, true, true, true, true, false, false, false, false, false] rfl rfl (take_ofW HT_.out HW_.out (by kernel_rfl)) (fun _ _ _ h => h) hHeld ?_
          refine pz (i := 14) (N := some 44) #[true, true, true, true, true, true, true, true, true, true, true, true, true, true, true, false, false, false, false] rfl rfl (any_of HT_.out (by kernel_rfl)) (fun _ _ _ h => h) ?_
          refine pz (i := 15) (N := some 45) #[true, true, true, true, true, true, true, true, true, true, true, true, true, true, true, true, false, false, false] rfl rfl (any_of HT_.out (by kernel_rfl)) (fun _ _ _ h => h) ?_
          refine pz (i := 16) (N := some 46) #[true, true, true, true, true, true, true, true, true, true, true, true, true, true, true, true, true, false, false] rfl rfl (any_of HT_.out (by kernel_rfl)) (fun _ _ _ h => h) ?_
          refine one_ (i := 17) (N := none) #[true, true, true, true, true, true, true, true, true, true, true, true, true, true, true, true, true, true, false] rfl rfl (one_of HT_.out (by kernel_rfl)) (by decide) (fun K hK => ?_)
          have hs17 : w16.cell? ⟨gb295, 0, none⟩ = some (.int .i64 0) := (blk_cell BK295.out 0).trans rfl
          have hfs17 := blk_frozen BK295.out 0
          have hns17_0 := NB294_295.out
          have hms17_0 := NB295_294.out
          have hs18 : w16.cell? ⟨gb295, 1, none⟩ = some (.int .u64 0) := (blk_cell BK295.out 1).trans rfl
          have hfs18 := blk_frozen BK295.out 1
          have hns18_0 := NB294_295.out
          have hms18_0 := NB295_294.out
          refine skip_ (w1 := ?_) (by rfl) rfl ?_ ?_
          rotate_left
          · go_simp
            rfl
          refine hK.out _ _ ⟨((cell_far (p := ⟨gb295, _, none⟩) NB294_295.out _).trans (((cell_far (p := ⟨gb295, _, none⟩) NB294_295.out _).trans (hHeld.1)))), ((cell_far (p := ⟨gb295, _, none⟩) NB294_295.out _).trans (((cell_far (p := ⟨gb295, _, none⟩) NB294_295.out _).trans (hHeld.2))))⟩ (fun hHeld => ?_)
          clear hK K
          refine pz (i := 18) (N := some 5) #[true, true, true, true, true, true, true, true, true, true, true, true, true, true, true, true, true, true, true] rfl rfl (any_of HT_.out (by kernel_rfl)) (fun _ _ _ h => h) ?_
          refine done_ (done_of HT_.out (by kernel_rfl)) ?_
          try go_wp2
          refine bodyPost_ret (results_ct rfl _ _ gb295 35 #[.int .i64 (wrap64 (IntKind.u64.wrap ((not64 a1_0) + 1))), .int .u64 (IntKind.u64.wrap ((not64 a1_1) + 1))] (0, 0) _ rfl (bp BK295) Try.underlying35 rfl (by kernel_rfl)) rfl ?_
          exact ⟨by first | rfl | (simp [errW_none, errW_some] <;> rfl) | (simp [*, errW_none, errW_some] <;> rfl), hq HB⟩
        · rw [if_neg c12] at H
          have c12b0 : (a1_0 == 9223372036854775808) = false := beq_eq_false_iff_ne.mpr c12
          have c12b1 : (a1_0 != 9223372036854775808) = true := bne_iff_ne.mpr c12
          simp only [Option.some.injEq, Prod.mk.injEq] at H
          obtain ⟨rfl, rfl, rfl⟩ := H
          go_enter Try.func69, Try.ntmps69
          try go_wp2_with (first | ((with_reducible refine gate_dst (N := 3) rfl ?_); refine box_event ?hg (N := 3) ?hd (cs := #[.int .u64 a1_0, .int .u64 a1_1]) (t := 89) ?hr ?_; (case hd => rfl); (case hg => rfl); (case hr => first | (go_simp; done) | (go_simp; rfl)); intro gb294 hg w19 hbox hb; have BK294 := Aside0.mk (hbox); have GW294 := ge HB hg; have GE294 := ge HB hg; replace HB := bs HB hb; clear hb hbox hg) | ((with_reducible refine gate_dst (N := 4) rfl ?_); refine box_event ?hg (N := 4) ?hd (cs := #[.int .i64 0, .int .u64 0]) (t := 35) ?hr ?_; (case hd => rfl); (case hg => rfl); (case hr => first | (go_simp; done) | (go_simp; rfl)); intro gb295 hg w20 hbox hb; have BK295 := Aside0.mk (hbox); have GW295 := ge HB hg; have GE295 := ge HB hg; have NB294_295 := nl BK294 hg; have NB295_294 := ng NB294_295; replace BK294 := bb BK294 hb; replace HB := bs HB hb; clear hb hbox hg))
          replace BK294 := bd1 BK294
          replace BK295 := bd1 BK295
          replace HB := hb1 HB
          refine start_ (n := 9) (S := fun w' => w'.cell? ⟨gb294, 0, none⟩ = some (.int .u64 a1_0) ∧ w'.cell? ⟨gb294, 1, none⟩ = some (.int .u64 a1_1)) (ds := []) #[false, false, false, false, false, false, false, false, false] (by kernel_rfl) rfl rfl ⟨(blk_cell BK294.out 0).trans rfl, (blk_cell BK294.out 1).trans rfl⟩ (fun hHeld => ?_); refine with_tabW corebankref01_Join.tab3 corebankref01_Join.bits3 (fun HT_ HW_ => ?_)
          generalize w20.drew = w21 at BK294 BK295 HB hHeld ⊢
          refine pz (i := 0) (N := some 19) #[true, false, false, false, false, false, false, false, false] rfl rfl (any_of HT_.out (by kernel_rfl)) (fun _ _ _ h => h) ?_
          refine pz (i := 4) (N := some 23) #[true, false, false, false, true, false, false, false, false] rfl rfl (any_of HT_.out (by kernel_rfl)) (fun _ _ _ h => h) ?_
          refine tz2 (i := 1) (N := some 20) #[true, true, false, false, true, false, false, false, false] rfl rfl (take_ofW HT_.out HW_.out (by kernel_rfl)) (fun _ _ _ h => h) hHeld ?_
          refine pz (i := 2) (N := some 21) #[true, true, true, false, true, false, false, false, false] rfl rfl (any_of HT_.out (by kernel_rfl)) (fun _ _ _ h => h) ?_
          refine pz (i := 3) (N := some 22) #[true, true, true, true, true, false, false, false, false] rfl rfl (any_of HT_.out (by kernel_rfl)) (fun _ _ _ h => h) ?_
          refine pz (i := 7) (N := some 6) #[true, true, true, true, true, false, false, true, false] rfl rfl (any_of HT_.out (by kernel_rfl)) (fun _ _ _ h => h) ?_
          refine tz2 (i := 5) (N := some 24) #[true, true, true, true, true, true, false, true, false] rfl rfl (take_ofW HT_.out HW_.out (by kernel_rfl)) (fun _ _ _ h => h) hHeld ?_
          refine pz (i := 6) (N := some 25) #[true, true, true, true, true, true, true, true, false] rfl rfl (any_of HT_.out (by kernel_rfl)) (fun _ _ _ h => h) ?_
          refine pz (i := 8) (N := some 7) #[true, true, true, true, true, true, true, true, true] rfl rfl (any_of HT_.out (by kernel_rfl)) (fun _ _ _ h => h) ?_
          refine done_ (done_of HT_.out (by kernel_rfl)) ?_
          try go_wp2
          replace BK294 := bd1 BK294
          replace BK295 := bd1 BK295
          replace HB := hb1 HB
          refine start_ (n := 19) (S := fun w' => w'.cell? ⟨gb294, 0, none⟩ = some (.int .u64 a1_0) ∧ w'.cell? ⟨gb294, 1, none⟩ = some (.int .u64 a1_1)) (ds := []) #[false, false, false, false, false, false, false, false, false, false, false, false, false, false, false, false, false, false, false] (by kernel_rfl) rfl rfl ⟨(blk_cell BK294.out 0).trans rfl, (blk_cell BK294.out 1).trans rfl⟩ (fun hHeld => ?_); refine with_tabW corebankref01_Join.tab6 corebankref01_Join.bits6 (fun HT_ HW_ => ?_)
          generalize w21.drew = w22 at BK294 BK295 HB hHeld ⊢
          refine pz (i := 0) (N := some 30) #[true, false, false, false, false, false, false, false, false, false, false, false, false, false, false, false, false, false, false] rfl rfl (any_of HT_.out (by kernel_rfl)) (fun _ _ _ h => h) ?_
          refine pz (i := 1) (N := some 31) #[true, true, false, false, false, false, false, false, false, false, false, false, false, false, false, false, false, false, false] rfl rfl (any_of HT_.out (by kernel_rfl)) (fun _ _ _ h => h) ?_
          refine pz (i := 2) (N := some 32) #[true, true, true, false, false, false, false, false, false, false, false, false, false, false, false, false, false, false, false] rfl rfl (any_of HT_.out (by kernel_rfl)) (fun _ _ _ h => h) ?_
          refine pz (i := 3) (N := some 33) #[true, true, true, true, false, false, false, false, false, false, false, false, false, false, false, false, false, false, false] rfl rfl (any_of HT_.out (by kernel_rfl)) (fun _ _ _ h => h) ?_
          refine pz (i := 4) (N := some 34) #[true, true, true, true, true, false, false, false, false, false, false, false, false, false, false, false, false, false, false] rfl rfl (any_of HT_.out (by kernel_rfl)) (fun _ _ _ h => h) ?_
          refine tz2 (i := 5) (N := some 35) #[true, true, true, true, true, true, false, false, false, false, false, false, false, false, false, false, false, false, false] rfl rfl (take_ofW HT_.out HW_.out (by kernel_rfl)) (fun _ _ _ h => h) hHeld ?_
          refine pz (i := 6) (N := some 36) #[true, true, true, true, true, true, true, false, false, false, false, false, false, false, false, false, false, false, false] rfl rfl (any_of HT_.out (by kernel_rfl)) (fun _ _ _ h => h) ?_
          refine pz (i := 7) (N := some 37) #[true, true, true, true, true, true, true, true, false, false, false, false, false, false, false, false, false, false, false] rfl rfl (any_of HT_.out (by kernel_rfl)) (fun _ _ _ h => h) ?_
          refine pz (i := 8) (N := some 38) #[true, true, true, true, true, true, true, true, true, false, false, false, false, false, false, false, false, false, false] rfl rfl (any_of HT_.out (by kernel_rfl)) (fun _ _ _ h => h) ?_
          refine tz2 (i := 9) (N := some 39) #[true, true, true, true, true, true, true, true, true, true, false, false, false, false, false, false, false, false, false] rfl rfl (take_ofW HT_.out HW_.out (by kernel_rfl)) (fun _ _ _ h => h) hHeld ?_
          refine pz (i := 10) (N := some 40) #[true, true, true, true, true, true, true, true, true, true, true, false, false, false, false, false, false, false, false] rfl rfl (any_of HT_.out (by kernel_rfl)) (fun _ _ _ h => h) ?_
          refine pz (i := 11) (N := some 41) #[true, true, true, true, true, true, true, true, true, true, true, true, false, false, false, false, false, false, false] rfl rfl (any_of HT_.out (by kernel_rfl)) (fun _ _ _ h => h) ?_
          refine pure_ (i := 12) (N := some 42) (v := undef) (a' := ?_) #[true, true, true, true, true, true, true, true, true, true, true, true, true, false, false, false, false, false, false] rfl rfl (any_of HT_.out (by kernel_rfl)) (fun _ _ _ h => h) (Or.inr ⟨by rfl, rfl⟩) ?_ ?_
          rotate_left
          · simp only [Act.put, List.setIfInBounds_toArray, List.set_cons_zero, List.set_cons_succ, i64_w, i32_w]
            rfl
          refine pure_ (i := 13) (N := some 43) (v := undef) (a' := ?_) #[true, true, true, true, true, true, true, true, true, true, true, true, true, true, false, false, false, false, false] rfl rfl (any_of HT_.out (by kernel_rfl)) (fun _ _ _ h => h) (Or.inr ⟨by rfl, rfl⟩) ?_ ?_
          rotate_left
          · simp only [Act.put, List.setIfInBounds_toArray, List.set_cons_zero, List.set_cons_succ, i64_w, i32_w]
            rfl
          refine pure_ (i := 14) (N := some 44) (v := undef) (a' := ?_) #[true, true, true, true, true, true, true, true, true, true, true, true, true, true, true, false, false, false, false] rfl rfl (any_of HT_.out (by kernel_rfl)) (fun _ _ _ h => h) (Or.inr ⟨by rfl, rfl⟩) ?_ ?_
          rotate_left
          · simp only [Act.put, List.setIfInBounds_toArray, List.set_cons_zero, List.set_cons_succ, i64_w, i32_w]
            rfl
          refine pz (i := 15) (N := some 45) #[true, true, true, true, true, true, true, true, true, true, true, true, true, true, true, true, false, false, false] rfl rfl (any_of HT_.out (by kernel_rfl)) (fun _ _ _ h => h) ?_
          refine pz (i := 16) (N := some 46) #[true, true, true, true, true, true, true, true, true, true, true, true, true, true, true, true, true, false, false] rfl rfl (any_of HT_.out (by kernel_rfl)) (fun _ _ _ h => h) ?_
          refine one_ (i := 17) (N := none) #[true, true, true, true, true, true, true, true, true, true, true, true, true, true, true, true, true, true, false] rfl rfl (one_of HT_.out (by kernel_rfl)) (by decide) (fun K hK => ?_)
          have hs23 : w22.cell? ⟨gb295, 0, none⟩ = some (.int .i64 0) := (blk_cell BK295.out 0).trans rfl
          have hfs23 := blk_frozen BK295.out 0
          have hns23_0 := NB294_295.out
          have hms23_0 := NB295_294.out
          have hs24 : w22.cell? ⟨gb295, 1, none⟩ = some (.int .u64 0) := (blk_cell BK295.out 1).trans rfl
          have hfs24 := blk_frozen BK295.out 1
          have hns24_0 := NB294_295.out
          have hms24_0 := NB295_294.out
          refine skip_ (w1 := ?_) (by rfl) rfl ?_ ?_
          rotate_left
          · go_simp
            rfl
          refine hK.out _ _ ⟨((cell_far (p := ⟨gb295, _, none⟩) NB294_295.out _).trans (((cell_far (p := ⟨gb295, _, none⟩) NB294_295.out _).trans (hHeld.1)))), ((cell_far (p := ⟨gb295, _, none⟩) NB294_295.out _).trans (((cell_far (p := ⟨gb295, _, none⟩) NB294_295.out _).trans (hHeld.2))))⟩ (fun hHeld => ?_)
          clear hK K
          refine pz (i := 18) (N := some 5) #[true, true, true, true, true, true, true, true, true, true, true, true, true, true, true, true, true, true, true] rfl rfl (any_of HT_.out (by kernel_rfl)) (fun _ _ _ h => h) ?_
          refine done_ (done_of HT_.out (by kernel_rfl)) ?_
          try go_wp2
          refine bodyPost_ret (results_ct rfl _ _ gb295 35 #[.int .i64 (wrap64 (IntKind.u64.wrap ((not64 a1_0) + 1))), .int .u64 (IntKind.u64.wrap ((not64 a1_1) + 1))] (0, 0) _ rfl (bp BK295) Try.underlying35 rfl (by kernel_rfl)) rfl ?_
          exact ⟨by first | rfl | (simp [errW_none, errW_some] <;> rfl) | (simp [*, errW_none, errW_some] <;> rfl), hq HB⟩
    · rw [if_neg c4] at H
      have c4b0 : ((IntKind.u64.wrap ((not64 a1_1) + 1)) == 0) = false := beq_eq_false_iff_ne.mpr c4
      have c4b1 : ((IntKind.u64.wrap ((not64 a1_1) + 1)) != 0) = true := bne_iff_ne.mpr c4
      by_cases c25 : a1_0 < 9223372036854775808
      · rw [if_pos c25] at H
        have c25b0 : decide (a1_0 < 9223372036854775808) = true := decide_eq_true c25
        clear c25
        simp only [Option.some.injEq, Prod.mk.injEq] at H
        obtain ⟨rfl, rfl, rfl⟩ := H
        go_enter Try.func69, Try.ntmps69
        try go_wp2_with (first | ((with_reducible refine gate_dst (N := 3) rfl ?_); refine box_event ?hg (N := 3) ?hd (cs := #[.int .u64 a1_0, .int .u64 a1_1]) (t := 89) ?hr ?_; (case hd => rfl); (case hg => rfl); (case hr => first | (go_simp; done) | (go_simp; rfl)); intro gb294 hg w26 hbox hb; have BK294 := Aside0.mk (hbox); have GW294 := ge HB hg; have GE294 := ge HB hg; replace HB := bs HB hb; clear hb hbox hg) | ((with_reducible refine gate_dst (N := 4) rfl ?_); refine box_event ?hg (N := 4) ?hd (cs := #[.int .i64 0, .int .u64 0]) (t := 35) ?hr ?_; (case hd => rfl); (case hg => rfl); (case hr => first | (go_simp; done) | (go_simp; rfl)); intro gb295 hg w27 hbox hb; have BK295 := Aside0.mk (hbox); have GW295 := ge HB hg; have GE295 := ge HB hg; have NB294_295 := nl BK294 hg; have NB295_294 := ng NB294_295; replace BK294 := bb BK294 hb; replace HB := bs HB hb; clear hb hbox hg))
        replace BK294 := bd1 BK294
        replace BK295 := bd1 BK295
        replace HB := hb1 HB
        refine start_ (n := 9) (S := fun w' => w'.cell? ⟨gb294, 0, none⟩ = some (.int .u64 a1_0) ∧ w'.cell? ⟨gb294, 1, none⟩ = some (.int .u64 a1_1)) (ds := []) #[false, false, false, false, false, false, false, false, false] (by kernel_rfl) rfl rfl ⟨(blk_cell BK294.out 0).trans rfl, (blk_cell BK294.out 1).trans rfl⟩ (fun hHeld => ?_); refine with_tabW corebankref01_Join.tab3 corebankref01_Join.bits3 (fun HT_ HW_ => ?_)
        generalize w27.drew = w28 at BK294 BK295 HB hHeld ⊢
        refine pz (i := 0) (N := some 19) #[true, false, false, false, false, false, false, false, false] rfl rfl (any_of HT_.out (by kernel_rfl)) (fun _ _ _ h => h) ?_
        refine pz (i := 4) (N := some 23) #[true, false, false, false, true, false, false, false, false] rfl rfl (any_of HT_.out (by kernel_rfl)) (fun _ _ _ h => h) ?_
        refine tz2 (i := 1) (N := some 20) #[true, true, false, false, true, false, false, false, false] rfl rfl (take_ofW HT_.out HW_.out (by kernel_rfl)) (fun _ _ _ h => h) hHeld ?_
        refine pz (i := 2) (N := some 21) #[true, true, true, false, true, false, false, false, false] rfl rfl (any_of HT_.out (by kernel_rfl)) (fun _ _ _ h => h) ?_
        refine pz (i := 3) (N := some 22) #[true, true, true, true, true, false, false, false, false] rfl rfl (any_of HT_.out (by kernel_rfl)) (fun _ _ _ h => h) ?_
        refine pz (i := 7) (N := some 6) #[true, true, true, true, true, false, false, true, false] rfl rfl (any_of HT_.out (by kernel_rfl)) (fun _ _ _ h => h) ?_
        refine tz2 (i := 5) (N := some 24) #[true, true, true, true, true, true, false, true, false] rfl rfl (take_ofW HT_.out HW_.out (by kernel_rfl)) (fun _ _ _ h => h) hHeld ?_
        refine pz (i := 6) (N := some 25) #[true, true, true, true, true, true, true, true, false] rfl rfl (any_of HT_.out (by kernel_rfl)) (fun _ _ _ h => h) ?_
        refine pz (i := 8) (N := some 7) #[true, true, true, true, true, true, true, true, true] rfl rfl (any_of HT_.out (by kernel_rfl)) (fun _ _ _ h => h) ?_
        refine done_ (done_of HT_.out (by kernel_rfl)) ?_
        try go_wp2
        replace BK294 := bd1 BK294
        replace BK295 := bd1 BK295
        replace HB := hb1 HB
        refine start_ (n := 19) (S := fun w' => w'.cell? ⟨gb294, 0, none⟩ = some (.int .u64 a1_0) ∧ w'.cell? ⟨gb294, 1, none⟩ = some (.int .u64 a1_1)) (ds := []) #[false, false, false, false, false, false, false, false, false, false, false, false, false, false, false, false, false, false, false] (by kernel_rfl) rfl rfl ⟨(blk_cell BK294.out 0).trans rfl, (blk_cell BK294.out 1).trans rfl⟩ (fun hHeld => ?_); refine with_tabW corebankref01_Join.tab6 corebankref01_Join.bits6 (fun HT_ HW_ => ?_)
        generalize w28.drew = w29 at BK294 BK295 HB hHeld ⊢
        refine pz (i := 0) (N := some 30) #[true, false, false, false, false, false, false, false, false, false, false, false, false, false, false, false, false, false, false] rfl rfl (any_of HT_.out (by kernel_rfl)) (fun _ _ _ h => h) ?_
        refine pz (i := 1) (N := some 31) #[true, true, false, false, false, false, false, false, false, false, false, false, false, false, false, false, false, false, false] rfl rfl (any_of HT_.out (by kernel_rfl)) (fun _ _ _ h => h) ?_
        refine pz (i := 2) (N := some 32) #[true, true, true, false, false, false, false, false, false, false, false, false, false, false, false, false, false, false, false] rfl rfl (any_of HT_.out (by kernel_rfl)) (fun _ _ _ h => h) ?_
        refine pz (i := 3) (N := some 33) #[true, true, true, true, false, false, false, false, false, false, false, false, false, false, false, false, false, false, false] rfl rfl (any_of HT_.out (by kernel_rfl)) (fun _ _ _ h => h) ?_
        refine pz (i := 4) (N := some 34) #[true, true, true, true, true, false, false, false, false, false, false, false, false, false, false, false, false, false, false] rfl rfl (any_of HT_.out (by kernel_rfl)) (fun _ _ _ h => h) ?_
        refine tz2 (i := 5) (N := some 35) #[true, true, true, true, true, true, false, false, false, false, false, false, false, false, false, false, false, false, false] rfl rfl (take_ofW HT_.out HW_.out (by kernel_rfl)) (fun _ _ _ h => h) hHeld ?_
        refine pz (i := 6) (N := some 36) #[true, true, true, true, true, true, true, false, false, false, false, false, false, false, false, false, false, false, false] rfl rfl (any_of HT_.out (by kernel_rfl)) (fun _ _ _ h => h) ?_
        refine pz (i := 7) (N := some 37) #[true, true, true, true, true, true, true, true, false, false, false, false, false, false, false, false, false, false, false] rfl rfl (any_of HT_.out (by kernel_rfl)) (fun _ _ _ h => h) ?_
        refine pure_ (i := 8) (N := some 38) (v := undef) (a' := ?_) #[true, true, true, true, true, true, true, true, true, false, false, false, false, false, false, false, false, false, false] rfl rfl (any_of HT_.out (by kernel_rfl)) (fun _ _ _ h => h) (Or.inr ⟨by rfl, rfl⟩) ?_ ?_
        rotate_left
        · simp only [Act.put, List.setIfInBounds_toArray, List.set_cons_zero, List.set_cons_succ, i64_w, i32_w]
          rfl
        refine pure_ (i := 9) (N := some 39) (v := undef) (a' := ?_) #[true, true, true, true, true, true, true, true, true, true, false, false, false, false, false, false, false, false, false] rfl rfl (any_of HT_.out (by kernel_rfl)) (fun _ _ _ h => h) (Or.inr ⟨by rfl, rfl⟩) ?_ ?_
        rotate_left
        · simp only [Act.put, List.setIfInBounds_toArray, List.set_cons_zero, List.set_cons_succ, i64_w, i32_w]
          rfl
        refine pure_ (i := 10) (N := some 40) (v := undef) (a' := ?_) #[true, true, true, true, true, true, true, true, true, true, true, false, false, false, false, false, false, false, false] rfl rfl (any_of HT_.out (by kernel_rfl)) (fun _ _ _ h => h) (Or.inr ⟨by rfl, rfl⟩) ?_ ?_
        rotate_left
        · simp only [Act.put, List.setIfInBounds_toArray, List.set_cons_zero, List.set_cons_succ, i64_w, i32_w]
          rfl
        refine pure_ (i := 11) (N := some 41) (v := undef) (a' := ?_) #[true, true, true, true, true, true, true, true, true, true, true, true, false, false, false, false, false, false, false] rfl rfl (any_of HT_.out (by kernel_rfl)) (fun _ _ _ h => h) (Or.inr ⟨by rfl, rfl⟩) ?_ ?_
        rotate_left
        · simp only [Act.put, List.setIfInBounds_toArray, List.set_cons_zero, List.set_cons_succ, i64_w, i32_w]
          rfl
        refine pure_ (i := 12) (N := some 42) (v := undef) (a' := ?_) #[true, true, true, true, true, true, true, true, true, true, true, true, true, false, false, false, false, false, false] rfl rfl (any_of HT_.out (by kernel_rfl)) (fun _ _ _ h => h) (Or.inr ⟨by rfl, rfl⟩) ?_ ?_
        rotate_left
        · simp only [Act.put, List.setIfInBounds_toArray, List.set_cons_zero, List.set_cons_succ, i64_w, i32_w]
          rfl
        refine pure_ (i := 13) (N := some 43) (v := undef) (a' := ?_) #[true, true, true, true, true, true, true, true, true, true, true, true, true, true, false, false, false, false, false] rfl rfl (any_of HT_.out (by kernel_rfl)) (fun _ _ _ h => h) (Or.inr ⟨by rfl, rfl⟩) ?_ ?_
        rotate_left
        · simp only [Act.put, List.setIfInBounds_toArray, List.set_cons_zero, List.set_cons_succ, i64_w, i32_w]
          rfl
        refine pure_ (i := 14) (N := some 44) (v := undef) (a' := ?_) #[true, true, true, true, true, true, true, true, true, true, true, true, true, true, true, false, false, false, false] rfl rfl (any_of HT_.out (by kernel_rfl)) (fun _ _ _ h => h) (Or.inr ⟨by rfl, rfl⟩) ?_ ?_
        rotate_left
        · simp only [Act.put, List.setIfInBounds_toArray, List.set_cons_zero, List.set_cons_succ, i64_w, i32_w]
          rfl
        refine pure_ (i := 15) (N := some 45) (v := undef) (a' := ?_) #[true, true, true, true, true, true, true, true, true, true, true, true, true, true, true, true, false, false, false] rfl rfl (any_of HT_.out (by kernel_rfl)) (fun _ _ _ h => h) (Or.inr ⟨by rfl, rfl⟩) ?_ ?_
        rotate_left
        · simp only [Act.put, List.setIfInBounds_toArray, List.set_cons_zero, List.set_cons_succ, i64_w, i32_w]
          rfl
        refine pz (i := 16) (N := some 46) #[true, true, true, true, true, true, true, true, true, true, true, true, true, true, true, true, true, false, false] rfl rfl (any_of HT_.out (by kernel_rfl)) (fun _ _ _ h => h) ?_
        refine one_ (i := 17) (N := none) #[true, true, true, true, true, true, true, true, true, true, true, true, true, true, true, true, true, true, false] rfl rfl (one_of HT_.out (by kernel_rfl)) (by decide) (fun K hK => ?_)
        have hs30 : w29.cell? ⟨gb295, 0, none⟩ = some (.int .i64 0) := (blk_cell BK295.out 0).trans rfl
        have hfs30 := blk_frozen BK295.out 0
        have hns30_0 := NB294_295.out
        have hms30_0 := NB295_294.out
        have hs31 : w29.cell? ⟨gb295, 1, none⟩ = some (.int .u64 0) := (blk_cell BK295.out 1).trans rfl
        have hfs31 := blk_frozen BK295.out 1
        have hns31_0 := NB294_295.out
        have hms31_0 := NB295_294.out
        refine skip_ (w1 := ?_) (by rfl) rfl ?_ ?_
        rotate_left
        · go_simp
          rfl
        refine hK.out _ _ ⟨((cell_far (p := ⟨gb295, _, none⟩) NB294_295.out _).trans (((cell_far (p := ⟨gb295, _, none⟩) NB294_295.out _).trans (hHeld.1)))), ((cell_far (p := ⟨gb295, _, none⟩) NB294_295.out _).trans (((cell_far (p := ⟨gb295, _, none⟩) NB294_295.out _).trans (hHeld.2))))⟩ (fun hHeld => ?_)
        clear hK K
        refine pz (i := 18) (N := some 5) #[true, true, true, true, true, true, true, true, true, true, true, true, true, true, true, true, true, true, true] rfl rfl (any_of HT_.out (by kernel_rfl)) (fun _ _ _ h => h) ?_
        refine done_ (done_of HT_.out (by kernel_rfl)) ?_
        try go_wp2
        refine bodyPost_ret (results_ct rfl _ _ gb295 35 #[.int .i64 (wrap64 (not64 a1_0)), .int .u64 (IntKind.u64.wrap ((not64 a1_1) + 1))] (0, 0) _ rfl (bp BK295) Try.underlying35 rfl (by kernel_rfl)) rfl ?_
        exact ⟨by first | rfl | (simp [errW_none, errW_some] <;> rfl) | (simp [*, errW_none, errW_some] <;> rfl), hq HB⟩
      · rw [if_neg c25] at H
        have c25b0 : decide (a1_0 < 9223372036854775808) = false := decide_eq_false c25
        clear c25
        by_cases c32 : a1_0 = 9223372036854775808
        · rw [if_pos c32] at H
          have c32b0 : (a1_0 == 9223372036854775808) = true := beq_iff_eq.mpr c32
          have c32b1 : (a1_0 != 9223372036854775808) = false := bne_eq_false_iff_eq.mpr c32
          clear c32
          simp only [Option.some.injEq, Prod.mk.injEq] at H
          obtain ⟨rfl, rfl, rfl⟩ := H
          go_enter Try.func69, Try.ntmps69
          try go_wp2_with (first | ((with_reducible refine gate_dst (N := 3) rfl ?_); refine box_event ?hg (N := 3) ?hd (cs := #[.int .u64 a1_0, .int .u64 a1_1]) (t := 89) ?hr ?_; (case hd => rfl); (case hg => rfl); (case hr => first | (go_simp; done) | (go_simp; rfl)); intro gb294 hg w33 hbox hb; have BK294 := Aside0.mk (hbox); have GW294 := ge HB hg; have GE294 := ge HB hg; replace HB := bs HB hb; clear hb hbox hg) | ((with_reducible refine gate_dst (N := 4) rfl ?_); refine box_event ?hg (N := 4) ?hd (cs := #[.int .i64 0, .int .u64 0]) (t := 35) ?hr ?_; (case hd => rfl); (case hg => rfl); (case hr => first | (go_simp; done) | (go_simp; rfl)); intro gb295 hg w34 hbox hb; have BK295 := Aside0.mk (hbox); have GW295 := ge HB hg; have GE295 := ge HB hg; have NB294_295 := nl BK294 hg; have NB295_294 := ng NB294_295; replace BK294 := bb BK294 hb; replace HB := bs HB hb; clear hb hbox hg))
          replace BK294 := bd1 BK294
          replace BK295 := bd1 BK295
          replace HB := hb1 HB
          refine start_ (n := 9) (S := fun w' => w'.cell? ⟨gb294, 0, none⟩ = some (.int .u64 a1_0) ∧ w'.cell? ⟨gb294, 1, none⟩ = some (.int .u64 a1_1)) (ds := []) #[false, false, false, false, false, false, false, false, false] (by kernel_rfl) rfl rfl ⟨(blk_cell BK294.out 0).trans rfl, (blk_cell BK294.out 1).trans rfl⟩ (fun hHeld => ?_); refine with_tabW corebankref01_Join.tab3 corebankref01_Join.bits3 (fun HT_ HW_ => ?_)
          generalize w34.drew = w35 at BK294 BK295 HB hHeld ⊢
          refine pz (i := 0) (N := some 19) #[true, false, false, false, false, false, false, false, false] rfl rfl (any_of HT_.out (by kernel_rfl)) (fun _ _ _ h => h) ?_
          refine pz (i := 4) (N := some 23) #[true, false, false, false, true, false, false, false, false] rfl rfl (any_of HT_.out (by kernel_rfl)) (fun _ _ _ h => h) ?_
          refine tz2 (i := 1) (N := some 20) #[true, true, false, false, true, false, false, false, false] rfl rfl (take_ofW HT_.out HW_.out (by kernel_rfl)) (fun _ _ _ h => h) hHeld ?_
          refine pz (i := 2) (N := some 21) #[true, true, true, false, true, false, false, false, false] rfl rfl (any_of HT_.out (by kernel_rfl)) (fun _ _ _ h => h) ?_
          refine pz (i := 3) (N := some 22) #[true, true, true, true, true, false, false, false, false] rfl rfl (any_of HT_.out (by kernel_rfl)) (fun _ _ _ h => h) ?_
          refine pz (i := 7) (N := some 6) #[true, true, true, true, true, false, false, true, false] rfl rfl (any_of HT_.out (by kernel_rfl)) (fun _ _ _ h => h) ?_
          refine tz2 (i := 5) (N := some 24) #[true, true, true, true, true, true, false, true, false] rfl rfl (take_ofW HT_.out HW_.out (by kernel_rfl)) (fun _ _ _ h => h) hHeld ?_
          refine pz (i := 6) (N := some 25) #[true, true, true, true, true, true, true, true, false] rfl rfl (any_of HT_.out (by kernel_rfl)) (fun _ _ _ h => h) ?_
          refine pz (i := 8) (N := some 7) #[true, true, true, true, true, true, true, true, true] rfl rfl (any_of HT_.out (by kernel_rfl)) (fun _ _ _ h => h) ?_
          refine done_ (done_of HT_.out (by kernel_rfl)) ?_
          try go_wp2
          replace BK294 := bd1 BK294
          replace BK295 := bd1 BK295
          replace HB := hb1 HB
          refine start_ (n := 19) (S := fun w' => w'.cell? ⟨gb294, 0, none⟩ = some (.int .u64 a1_0) ∧ w'.cell? ⟨gb294, 1, none⟩ = some (.int .u64 a1_1)) (ds := []) #[false, false, false, false, false, false, false, false, false, false, false, false, false, false, false, false, false, false, false] (by kernel_rfl) rfl rfl ⟨(blk_cell BK294.out 0).trans rfl, (blk_cell BK294.out 1).trans rfl⟩ (fun hHeld => ?_); refine with_tabW corebankref01_Join.tab6 corebankref01_Join.bits6 (fun HT_ HW_ => ?_)
          generalize w35.drew = w36 at BK294 BK295 HB hHeld ⊢
          refine pz (i := 0) (N := some 30) #[true, false, false, false, false, false, false, false, false, false, false, false, false, false, false, false, false, false, false] rfl rfl (any_of HT_.out (by kernel_rfl)) (fun _ _ _ h => h) ?_
          refine pz (i := 1) (N := some 31) #[true, true, false, false, false, false, false, false, false, false, false, false, false, false, false, false, false, false, false] rfl rfl (any_of HT_.out (by kernel_rfl)) (fun _ _ _ h => h) ?_
          refine pz (i := 2) (N := some 32) #[true, true, true, false, false, false, false, false, false, false, false, false, false, false, false, false, false, false, false] rfl rfl (any_of HT_.out (by kernel_rfl)) (fun _ _ _ h => h) ?_
          refine pz (i := 3) (N := some 33) #[true, true, true, true, false, false, false, false, false, false, false, false, false, false, false, false, false, false, false] rfl rfl (any_of HT_.out (by kernel_rfl)) (fun _ _ _ h => h) ?_
          refine pz (i := 4) (N := some 34) #[true, true, true, true, true, false, false, false, false, false, false, false, false, false, false, false, false, false, false] rfl rfl (any_of HT_.out (by kernel_rfl)) (fun _ _ _ h => h) ?_
          refine tz2 (i := 5) (N := some 35) #[true, true, true, true, true, true, false, false, false, false, false, false, false, false, false, false, false, false, false] rfl rfl (take_ofW HT_.out HW_.out (by kernel_rfl)) (fun _ _ _ h => h) hHeld ?_
          refine pz (i := 6) (N := some 36) #[true, true, true, true, true, true, true, false, false, false, false, false, false, false, false, false, false, false, false] rfl rfl (any_of HT_.out (by kernel_rfl)) (fun _ _ _ h => h) ?_
          refine pz (i := 7) (N := some 37) #[true, true, true, true, true, true, true, true, false, false, false, false, false, false, false, false, false, false, false] rfl rfl (any_of HT_.out (by kernel_rfl)) (fun _ _ _ h => h) ?_
          refine pz (i := 8) (N := some 38) #[true, true, true, true, true, true, true, true, true, false, false, false, false, false, false, false, false, false, false] rfl rfl (any_of HT_.out (by kernel_rfl)) (fun _ _ _ h => h) ?_
          refine tz2 (i := 9) (N := some 39) #[true, true, true, true, true, true, true, true, true, true, false, false, false, false, false, false, false, false, false] rfl rfl (take_ofW HT_.out HW_.out (by kernel_rfl)) (fun _ _ _ h => h) hHeld ?_
          refine pz (i := 10) (N := some 40) #[true, true, true, true, true, true, true, true, true, true, true, false, false, false, false, false, false, false, false] rfl rfl (any_of HT_.out (by kernel_rfl)) (fun _ _ _ h => h) ?_
          refine pz (i := 11) (N := some 41) #[true, true, true, true, true, true, true, true, true, true, true, true, false, false, false, false, false, false, false] rfl rfl (any_of HT_.out (by kernel_rfl)) (fun _ _ _ h => h) ?_
          refine pz (i := 12) (N := some 42) #[true, true, true, true, true, true, true, true, true, true, true, true, true, false, false, false, false, false, false] rfl rfl (any_of HT_.out (by kernel_rfl)) (fun _ _ _ h => h) ?_
          refine tz2 (i := 13) (N := some 43) #[true, true, true, true, true, true, true, true, true, true, true, true, true, true, false, false, false, false, false] rfl rfl (take_ofW HT_.out HW_.out (by kernel_rfl)) (fun _ _ _ h => h) hHeld ?_
          refine pz (i := 14) (N := some 44) #[true, true, true, true, true, true, true, true, true, true, true, true, true, true, true, false, false, false, false] rfl rfl (any_of HT_.out (by kernel_rfl)) (fun _ _ _ h => h) ?_
          refine pz (i := 15) (N := some 45) #[true, true, true, true, true, true, true, true, true, true, true, true, true, true, true, true, false, false, false] rfl rfl (any_of HT_.out (by kernel_rfl)) (fun _ _ _ h => h) ?_
          refine pz (i := 16) (N := some 46) #[true, true, true, true, true, true, true, true, true, true, true, true, true, true, true, true, true, false, false] rfl rfl (any_of HT_.out (by kernel_rfl)) (fun _ _ _ h => h) ?_
          refine one_ (i := 17) (N := none) #[true, true, true, true, true, true, true, true, true, true, true, true, true, true, true, true, true, true, false] rfl rfl (one_of HT_.out (by kernel_rfl)) (by decide) (fun K hK => ?_)
          have hs37 : w36.cell? ⟨gb295, 0, none⟩ = some (.int .i64 0) := (blk_cell BK295.out 0).trans rfl
          have hfs37 := blk_frozen BK295.out 0
          have hns37_0 := NB294_295.out
          have hms37_0 := NB295_294.out
          have hs38 : w36.cell? ⟨gb295, 1, none⟩ = some (.int .u64 0) := (blk_cell BK295.out 1).trans rfl
          have hfs38 := blk_frozen BK295.out 1
          have hns38_0 := NB294_295.out
          have hms38_0 := NB295_294.out
          refine skip_ (w1 := ?_) (by rfl) rfl ?_ ?_
          rotate_left
          · go_simp
            rfl
          refine hK.out _ _ ⟨((cell_far (p := ⟨gb295, _, none⟩) NB294_295.out _).trans (((cell_far (p := ⟨gb295, _, none⟩) NB294_295.out _).trans (hHeld.1)))), ((cell_far (p := ⟨gb295, _, none⟩) NB294_295.out _).trans (((cell_far (p := ⟨gb295, _, none⟩) NB294_295.out _).trans (hHeld.2))))⟩ (fun hHeld => ?_)
          clear hK K
          refine pz (i := 18) (N := some 5) #[true, true, true, true, true, true, true, true, true, true, true, true, true, true, true, true, true, true, true] rfl rfl (any_of HT_.out (by kernel_rfl)) (fun _ _ _ h => h) ?_
          refine done_ (done_of HT_.out (by kernel_rfl)) ?_
          try go_wp2
          refine bodyPost_ret (results_ct rfl _ _ gb295 35 #[.int .i64 (wrap64 (not64 a1_0)), .int .u64 (IntKind.u64.wrap ((not64 a1_1) + 1))] (0, 0) _ rfl (bp BK295) Try.underlying35 rfl (by kernel_rfl)) rfl ?_
          exact ⟨by first | rfl | (simp [errW_none, errW_some] <;> rfl) | (simp [*, errW_none, errW_some] <;> rfl), hq HB⟩
        · rw [if_neg c32] at H
          have c32b0 : (a1_0 == 9223372036854775808) = false := beq_eq_false_iff_ne.mpr c32
          have c32b1 : (a1_0 != 9223372036854775808) = true := bne_iff_ne.mpr c32
          simp only [Option.some.injEq, Prod.mk.injEq] at H
          obtain ⟨rfl, rfl, rfl⟩ := H
          go_enter Try.func69, Try.ntmps69
          try go_wp2_with (first | ((with_reducible refine gate_dst (N := 3) rfl ?_); refine box_event ?hg (N := 3) ?hd (cs := #[.int .u64 a1_0, .int .u64 a1_1]) (t := 89) ?hr ?_; (case hd => rfl); (case hg => rfl); (case hr => first | (go_simp; done) | (go_simp; rfl)); intro gb294 hg w39 hbox hb; have BK294 := Aside0.mk (hbox); have GW294 := ge HB hg; have GE294 := ge HB hg; replace HB := bs HB hb; clear hb hbox hg) | ((with_reducible refine gate_dst (N := 4) rfl ?_); refine box_event ?hg (N := 4) ?hd (cs := #[.int .i64 0, .int .u64 0]) (t := 35) ?hr ?_; (case hd => rfl); (case hg => rfl); (case hr => first | (go_simp; done) | (go_simp; rfl)); intro gb295 hg w40 hbox hb; have BK295 := Aside0.mk (hbox); have GW295 := ge HB hg; have GE295 := ge HB hg; have NB294_295 := nl BK294 hg; have NB295_294 := ng NB294_295; replace BK294 := bb BK294 hb; replace HB := bs HB hb; clear hb hbox hg))
          replace BK294 := bd1 BK294
          replace BK295 := bd1 BK295
          replace HB := hb1 HB
          refine start_ (n := 9) (S := fun w' => w'.cell? ⟨gb294, 0, none⟩ = some (.int .u64 a1_0) ∧ w'.cell? ⟨gb294, 1, none⟩ = some (.int .u64 a1_1)) (ds := []) #[false, false, false, false, false, false, false, false, false] (by kernel_rfl) rfl rfl ⟨(blk_cell BK294.out 0).trans rfl, (blk_cell BK294.out 1).trans rfl⟩ (fun hHeld => ?_); refine with_tabW corebankref01_Join.tab3 corebankref01_Join.bits3 (fun HT_ HW_ => ?_)
          generalize w40.drew = w41 at BK294 BK295 HB hHeld ⊢
          refine pz (i := 0) (N := some 19) #[true, false, false, false, false, false, false, false, false] rfl rfl (any_of HT_.out (by kernel_rfl)) (fun _ _ _ h => h) ?_
          refine pz (i := 4) (N := some 23) #[true, false, false, false, true, false, false, false, false] rfl rfl (any_of HT_.out (by kernel_rfl)) (fun _ _ _ h => h) ?_
          refine tz2 (i := 1) (N := some 20) #[true, true, false, false, true, false, false, false, false] rfl rfl (take_ofW HT_.out HW_.out (by kernel_rfl)) (fun _ _ _ h => h) hHeld ?_
          refine pz (i := 2) (N := some 21) #[true, true, true, false, true, false, false, false, false] rfl rfl (any_of HT_.out (by kernel_rfl)) (fun _ _ _ h => h) ?_
          refine pz (i := 3) (N := some 22) #[true, true, true, true, true, false, false, false, false] rfl rfl (any_of HT_.out (by kernel_rfl)) (fun _ _ _ h => h) ?_
          refine pz (i := 7) (N := some 6) #[true, true, true, true, true, false, false, true, false] rfl rfl (any_of HT_.out (by kernel_rfl)) (fun _ _ _ h => h) ?_
          refine tz2 (i := 5) (N := some 24) #[true, true, true, true, true, true, false, true, false] rfl rfl (take_ofW HT_.out HW_.out (by kernel_rfl)) (fun _ _ _ h => h) hHeld ?_
          refine pz (i := 6) (N := some 25) #[true, true, true, true, true, true, true, true, false] rfl rfl (any_of HT_.out (by kernel_rfl)) (fun _ _ _ h => h) ?_
          refine pz (i := 8) (N := some 7) #[true, true, true, true, true, true, true, true, true] rfl rfl (any_of HT_.out (by kernel_rfl)) (fun _ _ _ h => h) ?_
          refine done_ (done_of HT_.out (by kernel_rfl)) ?_
          try go_wp2
          replace BK294 := bd1 BK294
          replace BK295 := bd1 BK295
          replace HB := hb1 HB
          refine start_ (n := 19) (S := fun w' => w'.cell? ⟨gb294, 0, none⟩ = some (.int .u64 a1_0) ∧ w'.cell? ⟨gb294, 1, none⟩ = some (.int .u64 a1_1)) (ds := []) #[false, false, false, false, false, false, false, false, false, false, false, false, false, false, false, false, false, false, false] (by kernel_rfl) rfl rfl ⟨(blk_cell BK294.out 0).trans rfl, (blk_cell BK294.out 1).trans rfl⟩ (fun hHeld => ?_); refine with_tabW corebankref01_Join.tab6 corebankref01_Join.bits6 (fun HT_ HW_ => ?_)
          generalize w41.drew = w42 at BK294 BK295 HB hHeld ⊢
          refine pz (i := 0) (N := some 30) #[true, false, false, false, false, false, false, false, false, false, false, false, false, false, false, false, false, false, false] rfl rfl (any_of HT_.out (by kernel_rfl)) (fun _ _ _ h => h) ?_
          refine pz (i := 1) (N := some 31) #[true, true, false, false, false, false, false, false, false, false, false, false, false, false, false, false, false, false, false] rfl rfl (any_of HT_.out (by kernel_rfl)) (fun _ _ _ h => h) ?_
          refine pz (i := 2) (N := some 32) #[true, true, true, false, false, false, false, false, false, false, false, false, false, false, false, false, false, false, false] rfl rfl (any_of HT_.out (by kernel_rfl)) (fun _ _ _ h => h) ?_
          refine pz (i := 3) (N := some 33) #[true, true, true, true, false, false, false, false, false, false, false, false, false, false, false, false, false, false, false] rfl rfl (any_of HT_.out (by kernel_rfl)) (fun _ _ _ h => h) ?_
          refine pz (i := 4) (N := some 34) #[true, true, true, true, true, false, false, false, false, false, false, false, false, false, false, false, false, false, false] rfl rfl (any_of HT_.out (by kernel_rfl)) (fun _ _ _ h => h) ?_
          refine tz2 (i := 5) (N := some 35) #[true, true, true, true, true, true, false, false, false, false, false, false, false, false, false, false, false, false, false] rfl rfl (take_ofW HT_.out HW_.out (by kernel_rfl)) (fun _ _ _ h => h) hHeld ?_
          refine pz (i := 6) (N := some 36) #[true, true, true, true, true, true, true, false, false, false, false, false, false, false, false, false, false, false, false] rfl rfl (any_of HT_.out (by kernel_rfl)) (fun _ _ _ h => h) ?_
          refine pz (i := 7) (N := some 37) #[true, true, true, true, true, true, true, true, false, false, false, false, false, false, false, false, false, false, false] rfl rfl (any_of HT_.out (by kernel_rfl)) (fun _ _ _ h => h) ?_
          refine pz (i := 8) (N := some 38) #[true, true, true, true, true, true, true, true, true, false, false, false, false, false, false, false, false, false, false] rfl rfl (any_of HT_.out (by kernel_rfl)) (fun _ _ _ h => h) ?_
          refine tz2 (i := 9) (N := some 39) #[true, true, true, true, true, true, true, true, true, true, false, false, false, false, false, false, false, false, false] rfl rfl (take_ofW HT_.out HW_.out (by kernel_rfl)) (fun _ _ _ h => h) hHeld ?_
          refine pz (i := 10) (N := some 40) #[true, true, true, true, true, true, true, true, true, true, true, false, false, false, false, false, false, false, false] rfl rfl (any_of HT_.out (by kernel_rfl)) (fun _ _ _ h => h) ?_
          refine pz (i := 11) (N := some 41) #[true, true, true, true, true, true, true, true, true, true, true, true, false, false, false, false, false, false, false] rfl rfl (any_of HT_.out (by kernel_rfl)) (fun _ _ _ h => h) ?_
          refine pure_ (i := 12) (N := some 42) (v := undef) (a' := ?_) #[true, true, true, true, true, true, true, true, true, true, true, true, true, false, false, false, false, false, false] rfl rfl (any_of HT_.out (by kernel_rfl)) (fun _ _ _ h => h) (Or.inr ⟨by rfl, rfl⟩) ?_ ?_
          rotate_left
          · simp only [Act.put, List.setIfInBounds_toArray, List.set_cons_zero, List.set_cons_succ, i64_w, i32_w]
            rfl
          refine pure_ (i := 13) (N := some 43) (v := undef) (a' := ?_) #[true, true, true, true, true, true, true, true, true, true, true, true, true, true, false, false, false, false, false] rfl rfl (any_of HT_.out (by kernel_rfl)) (fun _ _ _ h => h) (Or.inr ⟨by rfl, rfl⟩) ?_ ?_
          rotate_left
          · simp only [Act.put, List.setIfInBounds_toArray, List.set_cons_zero, List.set_cons_succ, i64_w, i32_w]
            rfl
          refine pure_ (i := 14) (N := some 44) (v := undef) (a' := ?_) #[true, true, true, true, true, true, true, true, true, true, true, true, true, true, true, false, false, false, false] rfl rfl (any_of HT_.out (by kernel_rfl)) (fun _ _ _ h => h) (Or.inr ⟨by rfl, rfl⟩) ?_ ?_
          rotate_left
          · simp only [Act.put, List.setIfInBounds_toArray, List.set_cons_zero, List.set_cons_succ, i64_w, i32_w]
            rfl
          refine pz (i := 15) (N := some 45) #[true, true, true, true, true, true, true, true, true, true, true, true, true, true, true, true, false, false, false] rfl rfl (any_of HT_.out (by kernel_rfl)) (fun _ _ _ h => h) ?_
          refine pz (i := 16) (N := some 46) #[true, true, true, true, true, true, true, true, true, true, true, true, true, true, true, true, true, false, false] rfl rfl (any_of HT_.out (by kernel_rfl)) (fun _ _ _ h => h) ?_
          refine one_ (i := 17) (N := none) #[true, true, true, true, true, true, true, true, true, true, true, true, true, true, true, true, true, true, false] rfl rfl (one_of HT_.out (by kernel_rfl)) (by decide) (fun K hK => ?_)
          have hs43 : w42.cell? ⟨gb295, 0, none⟩ = some (.int .i64 0) := (blk_cell BK295.out 0).trans rfl
          have hfs43 := blk_frozen BK295.out 0
          have hns43_0 := NB294_295.out
          have hms43_0 := NB295_294.out
          have hs44 : w42.cell? ⟨gb295, 1, none⟩ = some (.int .u64 0) := (blk_cell BK295.out 1).trans rfl
          have hfs44 := blk_frozen BK295.out 1
          have hns44_0 := NB294_295.out
          have hms44_0 := NB295_294.out
          refine skip_ (w1 := ?_) (by rfl) rfl ?_ ?_
          rotate_left
          · go_simp
            rfl
          refine hK.out _ _ ⟨((cell_far (p := ⟨gb295, _, none⟩) NB294_295.out _).trans (((cell_far (p := ⟨gb295, _, none⟩) NB294_295.out _).trans (hHeld.1)))), ((cell_far (p := ⟨gb295, _, none⟩) NB294_295.out _).trans (((cell_far (p := ⟨gb295, _, none⟩) NB294_295.out _).trans (hHeld.2))))⟩ (fun hHeld => ?_)
          clear hK K
          refine pz (i := 18) (N := some 5) #[true, true, true, true, true, true, true, true, true, true, true, true, true, true, true, true, true, true, true] rfl rfl (any_of HT_.out (by kernel_rfl)) (fun _ _ _ h => h) ?_
          refine done_ (done_of HT_.out (by kernel_rfl)) ?_
          try go_wp2
          refine bodyPost_ret (results_ct rfl _ _ gb295 35 #[.int .i64 (wrap64 (not64 a1_0)), .int .u64 (IntKind.u64.wrap ((not64 a1_1) + 1))] (0, 0) _ rfl (bp BK295) Try.underlying35 rfl (by kernel_rfl)) rfl ?_
          exact ⟨by first | rfl | (simp [errW_none, errW_some] <;> rfl) | (simp [*, errW_none, errW_some] <;> rfl), hq HB⟩
  · replace c3 := Bool.eq_false_iff.mpr c3
    subst c3
    have H1 : (some (wrap64 (a1_0), a1_1, decide (a1_0 < 9223372036854775808))) = some (r1, r2, r3) := by rw [if_neg (show ¬ (false = true) by decide)] at H; exact H
    clear H
    have H := H1
    clear H1
    simp only [Option.some.injEq, Prod.mk.injEq] at H
    obtain ⟨rfl, rfl, rfl⟩ := H
    go_enter Try.func69, Try.ntmps69
    try go_wp2_with (first | ((with_reducible refine gate_dst (N := 3) rfl ?_); refine box_event ?hg (N := 3) ?hd (cs := #[.int .u64 a1_0, .int .u64 a1_1]) (t := 89) ?hr ?_; (case hd => rfl); (case hg => rfl); (case hr => first | (go_simp; done) | (go_simp; rfl)); intro gb294 hg w45 hbox hb; have BK294 := Aside0.mk (hbox); have GW294 := ge HB hg; have GE294 := ge HB hg; replace HB := bs HB hb; clear hb hbox hg) | ((with_reducible refine gate_dst (N := 4) rfl ?_); refine box_event ?hg (N := 4) ?hd (cs := #[.int .i64 0, .int .u64 0]) (t := 35) ?hr ?_; (case hd => rfl); (case hg => rfl); (case hr => first | (go_simp; done) | (go_simp; rfl)); intro gb295 hg w46 hbox hb; have BK295 := Aside0.mk (hbox); have GW295 := ge HB hg; have GE295 := ge HB hg; have NB294_295 := nl BK294 hg; have NB295_294 := ng NB294_295; replace BK294 := bb BK294 hb; replace HB := bs HB hb; clear hb hbox hg))
    replace BK294 := bd1 BK294
    replace BK295 := bd1 BK295
    replace HB := hb1 HB
    refine start_ (n := 11) (S := fun w' => w'.cell? ⟨gb294, 0, none⟩ = some (.int .u64 a1_0) ∧ w'.cell? ⟨gb294, 1, none⟩ = some (.int .u64 a1_1)) (ds := []) #[false, false, false, false, false, false, false, false, false, false, false] (by kernel_rfl) rfl rfl ⟨(blk_cell BK294.out 0).trans rfl, (blk_cell BK294.out 1).trans rfl⟩ (fun hHeld => ?_); refine with_tabW corebankref01_Join.tab2 corebankref01_Join.bits2 (fun HT_ HW_ => ?_)
    generalize w46.drew = w47 at BK294 BK295 HB hHeld ⊢
    refine pz (i := 0) (N := some 10) #[true, false, false, false, false, false, false, false, false, false, false] rfl rfl (any_of HT_.out (by kernel_rfl)) (fun _ _ _ h => h) ?_
    refine pz (i := 3) (N := some 13) #[true, false, false, true, false, false, false, false, false, false, false] rfl rfl (any_of HT_.out (by kernel_rfl)) (fun _ _ _ h => h) ?_
    refine pz (i := 6) (N := some 16) #[true, false, false, true, false, false, true, false, false, false, false] rfl rfl (any_of HT_.out (by kernel_rfl)) (fun _ _ _ h => h) ?_
    refine tz2 (i := 1) (N := some 11) #[true, true, false, true, false, false, true, false, false, false, false] rfl rfl (take_ofW HT_.out HW_.out (by kernel_rfl)) (fun _ _ _ h => h) hHeld ?_
    refine pz (i := 2) (N := some 12) #[true, true, true, true, false, false, true, false, false, false, false] rfl rfl (any_of HT_.out (by kernel_rfl)) (fun _ _ _ h => h) ?_
    refine tz2 (i := 4) (N := some 14) #[true, true, true, true, true, false, true, false, false, false, false] rfl rfl (take_ofW HT_.out HW_.out (by kernel_rfl)) (fun _ _ _ h => h) hHeld ?_
    refine pz (i := 5) (N := some 15) #[true, true, true, true, true, true, true, false, false, false, false] rfl rfl (any_of HT_.out (by kernel_rfl)) (fun _ _ _ h => h) ?_
    refine tz2 (i := 7) (N := some 17) #[true, true, true, true, true, true, true, true, false, false, false] rfl rfl (take_ofW HT_.out HW_.out (by kernel_rfl)) (fun _ _ _ h => h) hHeld ?_
    refine pz (i := 8) (N := some 18) #[true, true, true, true, true, true, true, true, true, false, false] rfl rfl (any_of HT_.out (by kernel_rfl)) (fun _ _ _ h => h) ?_
    refine one_ (i := 9) (N := none) #[true, true, true, true, true, true, true, true, true, true, false] rfl rfl (one_of HT_.out (by kernel_rfl)) (by decide) (fun K hK => ?_)
    have hs48 : w47.cell? ⟨gb295, 0, none⟩ = some (.int .i64 0) := (blk_cell BK295.out 0).trans rfl
    have hfs48 := blk_frozen BK295.out 0
    have hns48_0 := NB294_295.out
    have hms48_0 := NB295_294.out
    have hs49 : w47.cell? ⟨gb295, 1, none⟩ = some (.int .u64 0) := (blk_cell BK295.out 1).trans rfl
    have hfs49 := blk_frozen BK295.out 1
    have hns49_0 := NB294_295.out
    have hms49_0 := NB295_294.out
    refine skip_ (w1 := ?_) (by rfl) rfl ?_ ?_
    rotate_left
    · go_simp
      rfl
    refine hK.out _ _ ⟨((cell_far (p := ⟨gb295, _, none⟩) NB294_295.out _).trans (((cell_far (p := ⟨gb295, _, none⟩) NB294_295.out _).trans (hHeld.1)))), ((cell_far (p := ⟨gb295, _, none⟩) NB294_295.out _).trans (((cell_far (p := ⟨gb295, _, none⟩) NB294_295.out _).trans (hHeld.2))))⟩ (fun hHeld => ?_)
    clear hK K
    refine pz (i := 10) (N := some 5) #[true, true, true, true, true, true, true, true, true, true, true] rfl rfl (any_of HT_.out (by kernel_rfl)) (fun _ _ _ h => h) ?_
    refine done_ (done_of HT_.out (by kernel_rfl)) ?_
    try go_wp2
    refine bodyPost_ret (results_ct rfl _ _ gb295 35 #[.int .i64 (wrap64 (a1_0)), .int .u64 a1_1] (0, 0) _ rfl (bp BK295) Try.underlying35 rfl (by kernel_rfl)) rfl ?_
    exact ⟨by first | rfl | (simp [errW_none, errW_some] <;> rfl) | (simp [*, errW_none, errW_some] <;> rfl), hq HB⟩

end Go.Proofs.Ytlmabdiodopidaa.P
end
section
set_option linter.unusedVariables false
set_option linter.unusedSimpArgs false
namespace Go.Proofs.Ytlmabdiodopidaa.P
open Go.Proofs.Ytlmabdiodopidaa.G
attribute [local go_sem high] un_not64 un_noti run_add64
open Go.RowKit Go.Proofs.YtlmabdiodopidaaW.PrintWords Go.Proofs.YtlmabdiodopidaaW.PrintLast Go.Proofs.YtlmabdiodopidaaW.PrintMore
attribute [local go_sem] max2_int min2_int max_two min_two max_three min_three max_four min_four   -- for this text's walks alone
set_option linter.unusedVariables false
set_option linter.unusedSimpArgs false

/-! ### corebankref01_Less: function 71 -/
def corebankref01_Less.f (a0_0 : Int) (a0_1 : Int) (a1_0 : Int) (a1_1 : Int) : Option (Bool) := if a0_0 < a1_0 then (some true) else (if a0_0 = a1_0 then (some (decide (a0_1 < a1_1))) else (some false))
set_option maxHeartbeats 8000000 in
set_option maxRecDepth 100000 in
theorem corebankref01_Less.calls (a0_0 : Int) (a0_1 : Int) (a1_0 : Int) (a1_1 : Int) (r : Bool) (w : World) (h : corebankref01_Less.f a0_0 a0_1 a1_0 a1_1 = some r) :
    Calls Try.prog 71 #[.agg #[.int .u64 a0_0, .int .u64 a0_1], .agg #[.int .u64 a1_0, .int .u64 a1_1]] w fun e w' => e = .returned (.bool r) ∧ Below w.heap.size w w' := by
  have hu89 := Try.underlying89
  have HB := Aside0.mk (Below.refl w.heap.size w)
  have H : (if a0_0 < a1_0 then (some true) else (if a0_0 = a1_0 then (some (decide (a0_1 < a1_1))) else (some false))) = some r := h
  clear h
  by_cases c3 : a0_0 < a1_0
  · rw [if_pos c3] at H
    have c3b0 : decide (a0_0 < a1_0) = true := decide_eq_true c3
    clear c3
    obtain rfl := Option.some.inj H
    go_enter Try.func71, Try.ntmps71
    go_wp2_with (first | ((with_reducible refine gate_dst (N := 2) rfl ?_); refine box_event ?hg (N := 2) ?hd (cs := #[.int .u64 a0_0, .int .u64 a0_1]) (t := 89) ?hr ?_; (case hd => rfl); (case hg => rfl); (case hr => first | (go_simp; done) | (go_simp; rfl)); intro gb296 hg w4 hbox hb; have BK296 := Aside0.mk (hbox); have GW296 := ge HB hg; have GE296 := ge HB hg; replace HB := bs HB hb; clear hb hbox hg) | ((with_reducible refine gate_dst (N := 3) rfl ?_); refine box_event ?hg (N := 3) ?hd (cs := #[.int .u64 a1_0, .int .u64 a1_1]) (t := 89) ?hr ?_; (case hd => rfl); (case hg => rfl); (case hr => first | (go_simp; done) | (go_simp; rfl)); intro gb297 hg w5 hbox hb; have BK297 := Aside0.mk (hbox); have GW297 := ge HB hg; have GE297 := ge HB hg; have NB296_297 := nl BK296 hg; have NB297_296 := ng NB296_297; replace BK296 := bb BK296 hb; replace HB := bs HB hb; clear hb hbox hg; have hnb6 := NB296_297.out; have hnc6 := NB297_296.out; obtain ⟨hcz7_0, hcz7_1, hfz7_0, hfz7_1⟩ := cz2 BK296; obtain ⟨hcz8_0, hcz8_1, hfz8_0, hfz8_1⟩ := cz2 BK297))
    go_ret
    exact ⟨by first | rfl | (simp [errW_none, errW_some] <;> rfl) | (simp [*, errW_none, errW_some] <;> rfl), hq HB⟩
  · rw [if_neg c3] at H
    have c3b0 : decide (a0_0 < a1_0) = false := decide_eq_false c3
    clear c3
    by_cases c9 : a0_0 = a1_0
    · rw [if_pos c9] at H
      have c9b0 : (a0_0 == a1_0) = true := beq_iff_eq.mpr c9
      have c9b1 : (a0_0 != a1_0) = false := bne_eq_false_iff_eq.mpr c9
      clear c9
      obtain rfl := Option.some.inj H
      go_enter Try.func71, Try.ntmps71
      go_wp2_with (first | ((with_reducible refine gate_dst (N := 2) rfl ?_); refine box_event ?hg (N := 2) ?hd (cs := #[.int .u64 a0_0, .int .u64 a0_1]) (t := 89) ?hr ?_; (case hd => rfl); (case hg => rfl); (case hr => first | (go_simp; done) | (go_simp; rfl)); intro gb296 hg w10 hbox hb; have BK296 := Aside0.mk (hbox); have GW296 := ge HB hg; have GE296 := ge HB hg; replace HB := bs HB hb; clear hb hbox hg) | ((with_reducible refine gate_dst (N := 3) rfl ?_); refine box_event ?hg (N := 3) ?hd (cs := #[.int .u64 a1_0, .int .u64 a1_1]) (t := 89) ?hr ?_; (case hd => rfl); (case hg => rfl); (case hr => first | (go_simp; done) | (go_simp; rfl)); intro gb297 hg w11 hbox hb; have BK297 := Aside0.mk (hbox); have GW297 := ge HB hg; have GE297 := ge HB hg; have NB296_297 := nl BK296 hg; have NB297_296 := ng NB296_297; replace BK296 := bb BK296 hb; replace HB := bs HB hb; clear hb hbox hg; have hnb12 := NB296_297.out; have hnc12 := NB297_296.out; obtain ⟨hcz13_0, hcz13_1, hfz13_0, hfz13_1⟩ := cz2 BK296; obtain ⟨hcz14_0, hcz14_1, hfz14_0, hfz14_1⟩ := cz2 BK297))
      go_ret
      exact ⟨by first | rfl | (simp [errW_none, errW_some] <;> rfl) | (simp [*, errW_none, errW_some] <;> rfl), hq HB⟩
    · rw [if_neg c9] at H
      have c9b0 : (a0_0 == a1_0) = false := beq_eq_false_iff_ne.mpr c9
      have c9b1 : (a0_0 != a1_0) = true := bne_iff_ne.mpr c9
      obtain rfl := Option.some.inj H
      go_enter Try.func71, Try.ntmps71
      go_wp2_with (first | ((with_reducible refine gate_dst (N := 2) rfl ?_); refine box_event ?hg (N := 2) ?hd (cs := #[.int .u64 a0_0, .int .u64 a0_1]) (t := 89) ?hr ?_; (case hd => rfl); (case hg => rfl); (case hr => first | (go_simp; done) | (go_simp; rfl)); intro gb296 hg w15 hbox hb; have BK296 := Aside0.mk (hbox); have GW296 := ge HB hg; have GE296 := ge HB hg; replace HB := bs HB hb; clear hb hbox hg) | ((with_reducible refine gate_dst (N := 3) rfl ?_); refine box_event ?hg (N := 3) ?hd (cs := #[.int .u64 a1_0, .int .u64 a1_1]) (t := 89) ?hr ?_; (case hd => rfl); (case hg => rfl); (case hr => first | (go_simp; done) | (go_simp; rfl)); intro gb297 hg w16 hbox hb; have BK297 := Aside0.mk (hbox); have GW297 := ge HB hg; have GE297 := ge HB hg; have NB296_297 := nl BK296 hg; have NB297_296 := ng NB296_297; replace BK296 := bb BK296 hb; replace HB := bs HB hb; clear hb hbox hg; have hnb17 := NB296_297.out; have hnc17 := NB297_296.out; obtain ⟨hcz18_0, hcz18_1, hfz18_0, hfz18_1⟩ := cz2 BK296; obtain ⟨hcz19_0, hcz19_1, hfz19_0, hfz19_1⟩ := cz2 BK297))
      go_ret
      exact ⟨by first | rfl | (simp [errW_none, errW_some] <;> rfl) | (simp [*, errW_none, errW_some] <;> rfl), hq HB⟩

/-! ### corebankref01_minus: function 72 -/
def corebankref01_minus.f (a0_0 : Int) (a0_1 : Int) (a1_0 : Int) (a1_1 : Int) : Option (Int × Int) := if a0_1 < a1_1 then (some (IntKind.u64.wrap ((IntKind.u64.wrap (a0_0 - a1_0)) - 1), IntKind.u64.wrap (a0_1 - a1_1))) else (some (IntKind.u64.wrap (a0_0 - a1_0), IntKind.u64.wrap (a0_1 - a1_1)))
set_option maxHeartbeats 8000000 in
set_option maxRecDepth 100000 in
theorem corebankref01_minus.calls (a0_0 : Int) (a0_1 : Int) (a1_0 : Int) (a1_1 : Int) (r1 : Int) (r2 : Int) (w : World) (h : corebankref01_minus.f a0_0 a0_1 a1_0 a1_1 = some (r1, r2)) :
    Calls Try.prog 72 #[.agg #[.int .u64 a0_0, .int .u64 a0_1], .agg #[.int .u64 a1_0, .int .u64 a1_1]] w fun e w' => e = .returned (.agg #[.int .u64 r1, .int .u64 r2]) ∧ Below w.heap.size w w' := by
  have hu89 := Try.underlying89
  have HB := Aside0.mk (Below.refl w.heap.size w)
  have H : (if a0_1 < a1_1 then (some (IntKind.u64.wrap ((IntKind.u64.wrap (a0_0 - a1_0)) - 1), IntKind.u64.wrap (a0_1 - a1_1))) else (some (IntKind.u64.wrap (a0_0 - a1_0), IntKind.u64.wrap (a0_1 - a1_1)))) = some (r1, r2) := h
  clear h
  by_cases c3 : a0_1 < a1_1
  · rw [if_pos c3] at H
    have c3b0 : decide (a0_1 < a1_1) = true := decide_eq_true c3
    clear c3
    simp only [Option.some.injEq, Prod.mk.injEq] at H
    obtain ⟨rfl, rfl⟩ := H
    go_enter Try.func72, Try.ntmps72
    go_wp2_with (first | ((with_reducible refine gate_dst (N := 2) rfl ?_); refine box_event ?hg (N := 2) ?hd (cs := #[.int .u64 a0_0, .int .u64 a0_1]) (t := 89) ?hr ?_; (case hd => rfl); (case hg => rfl); (case hr => first | (go_simp; done) | (go_simp; rfl)); intro gb298 hg w4 hbox hb; have BK298 := Aside0.mk (hbox); have GW298 := ge HB hg; have GE298 := ge HB hg; replace HB := bs HB hb; clear hb hbox hg) | ((with_reducible refine gate_dst (N := 3) rfl ?_); refine box_event ?hg (N := 3) ?hd (cs := #[.int .u64 a1_0, .int .u64 a1_1]) (t := 89) ?hr ?_; (case hd => rfl); (case hg => rfl); (case hr => first | (go_simp; done) | (go_simp; rfl)); intro gb299 hg w5 hbox hb; have BK299 := Aside0.mk (hbox); have GW299 := ge HB hg; have GE299 := ge HB hg; have NB298_299 := nl BK298 hg; have NB299_298 := ng NB298_299; replace BK298 := bb BK298 hb; replace HB := bs HB hb; clear hb hbox hg) | ((with_reducible refine gate_dst (N := 4) rfl ?_); refine box_event ?hg (N := 4) ?hd (cs := #[.int .u64 0, .int .u64 0]) (t := 89) ?hr ?_; (case hd => rfl); (case hg => rfl); (case hr => first | (go_simp; done) | (go_simp; rfl)); intro gb300 hg w6 hbox hb; have BK300 := Aside0.mk (hbox); have GW300 := ge HB hg; have GE300 := ge HB hg; have NB298_300 := nl BK298 hg; have NB300_298 := ng NB298_300; have NB299_300 := nl BK299 hg; have NB300_299 := ng NB299_300; replace BK298 := bb BK298 hb; replace BK299 := bb BK299 hb; replace HB := bs HB hb; clear hb hbox hg; have hnb7 := NB298_299.out; have hnc7 := NB299_298.out; have hnb8 := NB298_300.out; have hnc8 := NB300_298.out; obtain ⟨hcz9_0, hcz9_1, hfz9_0, hfz9_1⟩ := cz2 BK298; have hnb10 := NB299_300.out; have hnc10 := NB300_299.out; obtain ⟨hcz11_0, hcz11_1, hfz11_0, hfz11_1⟩ := cz2 BK299; obtain ⟨hcz12_0, hcz12_1, hfz12_0, hfz12_1⟩ := cz2 BK300))
    refine bodyPost_ret (results_cell_row rfl _ _ gb300 89 #[.int .u64 (IntKind.u64.wrap ((IntKind.u64.wrap (a0_0 - a1_0)) - 1)), .int .u64 (IntKind.u64.wrap (a0_1 - a1_1))] (0, 0) _ rfl (bp BK300) Try.underlying89 rfl (by kernel_rfl)) rfl ?_
    exact ⟨by first | rfl | (simp [errW_none, errW_some] <;> rfl) | (simp [*, errW_none, errW_some] <;> rfl), hq HB⟩
  · rw [if_neg c3] at H
    have c3b0 : decide (a0_1 < a1_1) = false := decide_eq_false c3
    clear c3
    simp only [Option.some.injEq, Prod.mk.injEq] at H
    obtain ⟨rfl, rfl⟩ := H
    go_enter Try.func72, Try.ntmps72
    go_wp2_with (first | ((with_reducible refine gate_dst (N := 2) rfl ?_); refine box_event ?hg (N := 2) ?hd (cs := #[.int .u64 a0_0, .int .u64 a0_1]) (t := 89) ?hr ?_; (case hd => rfl); (case hg => rfl); (case hr => first | (go_simp; done) | (go_simp; rfl)); intro gb298 hg w13 hbox hb; have BK298 := Aside0.mk (hbox); have GW298 := ge HB hg; have GE298 := ge HB hg; replace HB := bs HB hb; clear hb hbox hg) | ((with_reducible refine gate_dst (N := 3) rfl ?_); refine box_event ?hg (N := 3) ?hd (cs := #[.int .u64 a1_0, .int .u64 a1_1]) (t := 89) ?hr ?_; (case hd => rfl); (case hg => rfl); (case hr => first | (go_simp; done) | (go_simp; rfl)); intro gb299 hg w14 hbox hb; have BK299 := Aside0.mk (hbox); have GW299 := ge HB hg; have GE299 := ge HB hg; have NB298_299 := nl BK298 hg; have NB299_298 := ng NB298_299; replace BK298 := bb BK298 hb; replace HB := bs HB hb; clear hb hbox hg) | ((with_reducible refine gate_dst (N := 4) rfl ?_); refine box_event ?hg (N := 4) ?hd (cs := #[.int .u64 0, .int .u64 0]) (t := 89) ?hr ?_; (case hd => rfl); (case hg => rfl); (case hr => first | (go_simp; done) | (go_simp; rfl)); intro gb300 hg w15 hbox hb; have BK300 := Aside0.mk (hbox); have GW300 := ge HB hg; have GE300 := ge HB hg; have NB298_300 := nl BK298 hg; have NB300_298 := ng NB298_300; have NB299_300 := nl BK299 hg; have NB300_299 := ng NB299_300; replace BK298 := bb BK298 hb; replace BK299 := bb BK299 hb; replace HB := bs HB hb; clear hb hbox hg; have hnb16 := NB298_299.out; have hnc16 := NB299_298.out; have hnb17 := NB298_300.out; have hnc17 := NB300_298.out; obtain ⟨hcz18_0, hcz18_1, hfz18_0, hfz18_1⟩ := cz2 BK298; have hnb19 := NB299_300.out; have hnc19 := NB300_299.out; obtain ⟨hcz20_0, hcz20_1, hfz20_0, hfz20_1⟩ := cz2 BK299; obtain ⟨hcz21_0, hcz21_1, hfz21_0, hfz21_1⟩ := cz2 BK300))
    refine bodyPost_ret (results_cell_row rfl _ _ gb300 89 #[.int .u64 (IntKind.u64.wrap (a0_0 - a1_0)), .int .u64 (IntKind.u64.wrap (a0_1 - a1_1))] (0, 0) _ rfl (bp BK300) Try.underlying89 rfl (by kernel_rfl)) rfl ?_
    exact ⟨by first | rfl | (simp [errW_none, errW_some] <;> rfl) | (simp [*, errW_none, errW_some] <;> rfl), hq HB⟩

end Go.Proofs.Ytlmabdiodopidaa.P
end
section
set_option linter.unusedVariables false
set_option linter.unusedSimpArgs false
namespace Go.Proofs.Ytlmabdiodopidaa.P
open Go.Proofs.Ytlmabdiodopidaa.G
attribute [local go_sem high] un_not64 un_noti run_add64
open Go.RowKit Go.Proofs.YtlmabdiodopidaaW.PrintWords Go.Proofs.YtlmabdiodopidaaW.PrintLast Go.Proofs.YtlmabdiodopidaaW.PrintMore
attribute [local go_sem] max2_int min2_int max_two min_two max_three min_three max_four min_four   -- for this text's walks alone
set_option linter.unusedVariables false
set_option linter.unusedSimpArgs false

/-! ### corebankref01_sum: function 49 -/
def corebankref01_sum.f (a0 : Bool) (a1_0 : Int) (a1_1 : Int) (a2 : Bool) (a3_0 : Int) (a3_1 : Int) : Option (Int × Int × Int) := if (a0 == a2) = true then ((corebankref01_plus.f a1_0 a1_1 a3_0 a3_1).bind fun bt305 => ((corebankref01_Join.f a0 bt305.1 bt305.2.1).bind fun bt308 => (if bt305.2.2 = true then (if bt308.2.2 = true then (some (bt308.1, bt308.2.1, 0)) else (some (0, 0, 6))) else (some (0, 0, 6))))) else ((corebankref01_Less.f a1_0 a1_1 a3_0 a3_1).bind fun t312 => (if t312 = true then ((corebankref01_minus.f a3_0 a3_1 a1_0 a1_1).bind fun bt313 => ((corebankref01_Join.f a2 bt313.1 bt313.2).bind fun bt315 => (if bt315.2.2 = true then (some (bt315.1, bt315.2.1, 0)) else (some (0, 0, 6))))) else ((corebankref01_minus.f a1_0 a1_1 a3_0 a3_1).bind fun bt319 => ((corebankref01_Join.f a0 bt319.1 bt319.2).bind fun bt321 => (if bt321.2.2 = true then (some (bt321.1, bt321.2.1, 0)) else (some (0, 0, 6)))))))
set_option maxHeartbeats 8000000 in
set_option maxRecDepth 100000 in
theorem corebankref01_sum.calls (a0 : Bool) (a1_0 : Int) (a1_1 : Int) (a2 : Bool) (a3_0 : Int) (a3_1 : Int) (r1 : Int) (r2 : Int) (r3 : Int) (w : World) (h : corebankref01_sum.f a0 a1_0 a1_1 a2 a3_0 a3_1 = some (r1, r2, r3)) :
    Calls Try.prog 49 #[.bool a0, .agg #[.int .u64 a1_0, .int .u64 a1_1], .bool a2, .agg #[.int .u64 a3_0, .int .u64 a3_1]] w fun e w' => e = .returned (.tuple #[.agg #[.int .i64 r1, .int .u64 r2], .int .i64 r3]) ∧ Below w.heap.size w w' := by
  have hu89 := Try.underlying89
  have hu35 := Try.underlying35
  have HB := Aside0.mk (Below.refl w.heap.size w)
  have H : (if (a0 == a2) = true then ((corebankref01_plus.f a1_0 a1_1 a3_0 a3_1).bind fun bt305 => ((corebankref01_Join.f a0 bt305.1 bt305.2.1).bind fun bt308 => (if bt305.2.2 = true then (if bt308.2.2 = true then (some (bt308.1, bt308.2.1, 0)) else (some (0, 0, 6))) else (some (0, 0, 6))))) else ((corebankref01_Less.f a1_0 a1_1 a3_0 a3_1).bind fun t312 => (if t312 = true then ((corebankref01_minus.f a3_0 a3_1 a1_0 a1_1).bind fun bt313 => ((corebankref01_Join.f a2 bt313.1 bt313.2).bind fun bt315 => (if bt315.2.2 = true then (some (bt315.1, bt315.2.1, 0)) else (some (0, 0, 6))))) else ((corebankref01_minus.f a1_0 a1_1 a3_0 a3_1).bind fun bt319 => ((corebankref01_Join.f a0 bt319.1 bt319.2).bind fun bt321 => (if bt321.2.2 = true then (some (bt321.1, bt321.2.1, 0)) else (some (0, 0, 6)))))))) = some (r1, r2, r3) := h
  clear h
  by_cases c5 : (a0 == a2) = true
  · rw [if_pos c5] at H
    have c5b0 : (a0 == a2) = true := c5
    (try (have c5b1 : decide (a0 = a2) = true := by simpa using c5))
    (try (have c5b2 : (a0 == a2) = true := by simpa using c5))
    clear c5
    replace H := Option.bind_eq_some_iff.mp H
    obtain ⟨⟨t305, t306, t307⟩, A60, H⟩ := H
    replace H : ((corebankref01_Join.f a0 t305 t306).bind fun bt308 => (if t307 = true then (if bt308.2.2 = true then (some (bt308.1, bt308.2.1, 0)) else (some (0, 0, 6))) else (some (0, 0, 6)))) = some (r1, r2, r3) := H
    have A6 := Aside0.mk A60
    clear A60
    replace H := Option.bind_eq_some_iff.mp H
    obtain ⟨⟨t308, t309, t310⟩, A70, H⟩ := H
    replace H : (if t307 = true then (if t310 = true then (some (t308, t309, 0)) else (some (0, 0, 6))) else (some (0, 0, 6))) = some (r1, r2, r3) := H
    have A7 := Aside0.mk A70
    clear A70
    by_cases c8 : t307 = true
    · subst c8
      have H1 : (if t310 = true then (some (t308, t309, 0)) else (some (0, 0, 6))) = some (r1, r2, r3) := by rw [if_pos rfl] at H; exact H
      clear H
      have H := H1
      clear H1
      by_cases c9 : t310 = true
      · subst c9
        have H1 : (some (t308, t309, 0)) = some (r1, r2, r3) := by rw [if_pos rfl] at H; exact H
        clear H
        have H := H1
        clear H1
        simp only [Option.some.injEq, Prod.mk.injEq] at H
        obtain ⟨rfl, rfl, rfl⟩ := H
        go_enter Try.func49, Try.ntmps49
        try go_wp2_with (first | ((with_reducible refine gate_dst (N := 5) rfl ?_); refine box_event ?hg (N := 5) ?hd (cs := #[.int .u64 a1_0, .int .u64 a1_1]) (t := 89) ?hr ?_; (case hd => rfl); (case hg => rfl); (case hr => first | (go_simp; done) | (go_simp; rfl)); intro gb301 hg w10 hbox hb; have BK301 := Aside0.mk (hbox); have GW301 := ge HB hg; have GE301 := ge HB hg; replace HB := bs HB hb; clear hb hbox hg) | ((with_reducible refine gate_dst (N := 7) rfl ?_); refine box_event ?hg (N := 7) ?hd (cs := #[.int .u64 a3_0, .int .u64 a3_1]) (t := 89) ?hr ?_; (case hd => rfl); (case hg => rfl); (case hr => first | (go_simp; done) | (go_simp; rfl)); intro gb302 hg w11 hbox hb; have BK302 := Aside0.mk (hbox); have GW302 := ge HB hg; have GE302 := ge HB hg; have NB301_302 := nl BK301 hg; have NB302_301 := ng NB301_302; replace BK301 := bb BK301 hb; replace HB := bs HB hb; clear hb hbox hg) | ((with_reducible refine gate_dst (N := 8) rfl ?_); refine box_event ?hg (N := 8) ?hd (cs := #[.int .i64 0, .int .u64 0]) (t := 35) ?hr ?_; (case hd => rfl); (case hg => rfl); (case hr => first | (go_simp; done) | (go_simp; rfl)); intro gb303 hg w12 hbox hb; have BK303 := Aside0.mk (hbox); have GW303 := ge HB hg; have GE303 := ge HB hg; have NB301_303 := nl BK301 hg; have NB303_301 := ng NB301_303; have NB302_303 := nl BK302 hg; have NB303_302 := ng NB302_303; replace BK301 := bb BK301 hb; replace BK302 := bb BK302 hb; replace HB := bs HB hb; clear hb hbox hg))
        replace BK301 := bd1 BK301
        replace BK302 := bd1 BK302
        replace BK303 := bd1 BK303
        replace HB := hb1 HB
        refine start_ (n := 6) (S := fun w' => w'.cell? ⟨gb301, 0, none⟩ = some (.int .u64 a1_0) ∧ w'.cell? ⟨gb301, 1, none⟩ = some (.int .u64 a1_1)) (ds := []) #[false, false, false, false, false, false] (by kernel_rfl) rfl rfl ⟨(blk_cell BK301.out 0).trans rfl, (blk_cell BK301.out 1).trans rfl⟩ (fun hHeld => ?_)
        generalize w12.drew = w13 at BK301 BK302 BK303 HB hHeld ⊢
        refine pure_ (i := 0) (N := some 15) (v := ?_) (a' := ?_) #[true, false, false, false, false, false] rfl rfl (by kernel_rfl) (fun _ _ _ h => h) (Or.inl ⟨by rfl, ?_⟩) ?_ ?_
        rotate_left
        · intro w'
          go_simp
          with_reducible rfl
        rotate_left
        · simp only [Act.put, List.setIfInBounds_toArray, List.set_cons_zero, List.set_cons_succ, i64_w, i32_w]
          rfl
        refine take_ (i := 1) (N := some 16) (v := ?_) (a' := ?_) #[true, true, false, false, false, false] rfl rfl (by kernel_rfl) (fun _ _ _ h => h) (Or.inl ⟨by rfl, ?_⟩) hHeld ?_ ?_
        rotate_left
        · rintro w' ⟨s0, s1⟩
          go_simp
          with_reducible rfl
        rotate_left
        · simp only [Act.put, List.setIfInBounds_toArray, List.set_cons_zero, List.set_cons_succ, i64_w, i32_w]
          rfl
        refine one_ (i := 2) (N := some 11) #[true, true, true, false, false, false] rfl rfl (by kernel_rfl) (by decide) (fun K hK => ?_)
        refine box_step ?hg (N := 11) ?hd (cs := #[.int .u64 0, .int .u64 0]) (t := 89) ?hr ?_; (case hd => rfl); (case hg => rfl); (case hr => first | (go_simp; done) | (go_simp; rfl))
        intro gb304 hg w14 hbox hb
        have BK304 := Aside0.mk (hbox)
        have GW304 := ge HB hg
        have GE304 := ge HB hg
        have NB301_304 := nl BK301 hg
        have NB304_301 := ng NB301_304
        have NB302_304 := nl BK302 hg
        have NB304_302 := ng NB302_304
        have NB303_304 := nl BK303 hg
        have NB304_303 := ng NB303_304
        replace BK301 := bb BK301 hb
        replace BK302 := bb BK302 hb
        replace BK303 := bb BK303 hb
        replace HB := bs HB hb
        clear hb hbox hg
        refine hK.out _ _ ⟨(blk_cell BK301.out 0).trans rfl, (blk_cell BK301.out 1).trans rfl⟩ (fun hHeld => ?_)
        clear hK K
        refine norm_ (a' := ?_) ?_ ?_
        rotate_left
        · show Act.put _ (some 11) _ = _
          simp only [Act.put, List.setIfInBounds_toArray, List.set_cons_zero, List.set_cons_succ, i64_w, i32_w]
          rfl
        refine pure_ (i := 3) (N := some 10) (v := ?_) (a' := ?_) #[true, true, true, true, false, false] rfl rfl (by kernel_rfl) (fun _ _ _ h => h) (Or.inl ⟨by rfl, ?_⟩) ?_ ?_
        rotate_left
        · intro w'
          go_simp
          with_reducible rfl
        rotate_left
        · simp only [Act.put, List.setIfInBounds_toArray, List.set_cons_zero, List.set_cons_succ, i64_w, i32_w]
          rfl
        refine one_ (i := 4) (N := none) #[true, true, true, true, true, false] rfl rfl (by kernel_rfl) (by decide) (fun K hK => ?_)
        have hs15 : w14.cell? ⟨gb304, 0, none⟩ = some (.int .u64 0) := (blk_cell BK304.out 0).trans rfl
        have hfs15 := blk_frozen BK304.out 0
        have hns15_0 := NB301_304.out
        have hns15_1 := NB302_304.out
        have hns15_2 := NB303_304.out
        have hms15_0 := NB304_301.out
        have hms15_1 := NB304_302.out
        have hms15_2 := NB304_303.out
        have hs16 : w14.cell? ⟨gb304, 1, none⟩ = some (.int .u64 0) := (blk_cell BK304.out 1).trans rfl
        have hfs16 := blk_frozen BK304.out 1
        have hns16_0 := NB301_304.out
        have hns16_1 := NB302_304.out
        have hns16_2 := NB303_304.out
        have hms16_0 := NB304_301.out
        have hms16_1 := NB304_302.out
        have hms16_2 := NB304_303.out
        refine skip_ (w1 := ?_) (by rfl) rfl ?_ ?_
        rotate_left
        · go_simp
          rfl
        refine hK.out _ _ ⟨((cell_far (p := ⟨gb304, _, none⟩) NB301_304.out _).trans (((cell_far (p := ⟨gb304, _, none⟩) NB301_304.out _).trans (hHeld.1)))), ((cell_far (p := ⟨gb304, _, none⟩) NB301_304.out _).trans (((cell_far (p := ⟨gb304, _, none⟩) NB301_304.out _).trans (hHeld.2))))⟩ (fun hHeld => ?_)
        clear hK K
        refine pure_ (i := 5) (N := some 12) (v := ?_) (a' := ?_) #[true, true, true, true, true, true] rfl rfl (by kernel_rfl) (fun _ _ _ h => h) (Or.inl ⟨by rfl, ?_⟩) ?_ ?_
        rotate_left
        · intro w'
          go_simp
          with_reducible rfl
        rotate_left
        · simp only [Act.put, List.setIfInBounds_toArray, List.set_cons_zero, List.set_cons_succ, i64_w, i32_w]
          rfl
        refine done_ (by kernel_rfl) ?_
        have hnb17 := NB301_302.out
        have hnc17 := NB302_301.out
        have hnb18 := NB301_303.out
        have hnc18 := NB303_301.out
        have hnb19 := NB301_304.out
        have hnc19 := NB304_301.out
        obtain ⟨hcz20_0, hcz20_1, hfz20_0, hfz20_1⟩ := cz2 BK301
        have hnb21 := NB302_303.out
        have hnc21 := NB303_302.out
        have hnb22 := NB302_304.out
        have hnc22 := NB304_302.out
        obtain ⟨hcz23_0, hcz23_1, hfz23_0, hfz23_1⟩ := cz2 BK302
        try go_wp2_with (first | ((with_reducible refine gate_callee (f := 70) rfl ?_); refine goesL_ (some 27) rfl rfl Try.func70 (by kernel_rfl) rfl #[.agg #[.int .u64 a1_0, .int .u64 a1_1], .agg #[.int .u64 a3_0, .int .u64 a3_1]] rfl zm ?_; (with_reducible refine (corebankref01_plus.calls a1_0 a1_1 a3_0 a3_1 t305 t306 true _ A6.out).mono ?_); rintro e w24 ⟨rfl, hb⟩; refine ⟨_, rfl, ?_⟩; replace BK301 := bb BK301 hb; replace BK302 := bb BK302 hb; replace BK303 := bb BK303 hb; replace BK304 := bpb BK304 hb #[.int .u64 a1_0, .int .u64 a1_1]; replace HB := bs HB hb; (try clear hb); (try clear hb2); (try clear hk); (try clear hi); have hnb25 := NB304_303.out; have hnc25 := NB303_304.out; obtain ⟨hcz26_0, hcz26_1, hfz26_0, hfz26_1⟩ := cz2 BK304) | ((with_reducible refine gate_callee (f := 69) rfl ?_); refine goesL_ (some 41) rfl rfl Try.func69 (by kernel_rfl) rfl #[.bool a0, .agg #[.int .u64 t305, .int .u64 t306]] rfl zm ?_; (with_reducible refine (corebankref01_Join.calls a0 t305 t306 t308 t309 true _ A7.out).mono ?_); rintro e w27 ⟨rfl, hb⟩; refine ⟨_, rfl, ?_⟩; replace BK301 := bb BK301 hb; replace BK302 := bb BK302 hb; replace BK303 := bb BK303 hb; replace BK304 := bpb BK304 hb #[.int .u64 t305, .int .u64 t306]; replace HB := bs HB hb; (try clear hb); (try clear hb2); (try clear hk); (try clear hi)) | ((with_reducible refine gate_dst (N := 13) rfl ?_); refine box_event ?hg (N := 13) ?hd (cs := #[.int .i64 0, .int .u64 0]) (t := 35) ?hr ?_; (case hd => rfl); (case hg => rfl); (case hr => first | (go_simp; done) | (go_simp; rfl)); intro gb311 hg w28 hbox hb; have BK311 := Aside0.mk (hbox); have GW311 := ge HB hg; have GE311 := ge HB hg; have NB301_311 := nl BK301 hg; have NB311_301 := ng NB301_311; have NB302_311 := nl BK302 hg; have NB311_302 := ng NB302_311; have NB303_311 := nl BK303 hg; have NB311_303 := ng NB303_311; have NB304_311 := nl BK304 hg; have NB311_304 := ng NB304_311; replace BK301 := bb BK301 hb; replace BK302 := bb BK302 hb; replace BK303 := bb BK303 hb; replace BK304 := bb BK304 hb; replace HB := bs HB hb; clear hb hbox hg; have hnb29 := NB311_301.out; have hnc29 := NB301_311.out; have hnb30 := NB311_302.out; have hnc30 := NB302_311.out; have hnb31 := NB311_303.out; have hnc31 := NB303_311.out; have hnb32 := NB311_304.out; have hnc32 := NB304_311.out; obtain ⟨hcz33_0, hcz33_1, hfz33_0, hfz33_1⟩ := cz2 BK311; obtain ⟨hcz34_0, hcz34_1, hfz34_0, hfz34_1⟩ := cz2 BK303))
        refine bodyPost_ret (results_ct rfl _ _ gb303 35 #[.int .i64 t308, .int .u64 t309] (0, 0) _ rfl (bp BK303) Try.underlying35 rfl (by kernel_rfl)) rfl ?_
        exact ⟨by first | rfl | (simp [errW_none, errW_some] <;> rfl) | (simp [*, errW_none, errW_some] <;> rfl), hq HB⟩
      · replace c9 := Bool.eq_false_iff.mpr c9
        subst c9
        have H1 : (some (0, 0, 6)) = some (r1, r2, r3) := by rw [if_neg (show ¬ (false = true) by decide)] at H; exact H
        clear H
        have H := H1
        clear H1
        simp only [Option.some.injEq, Prod.mk.injEq] at H
        obtain ⟨rfl, rfl, rfl⟩ := H
        go_enter Try.func49, Try.ntmps49
        try go_wp2_with (first | ((with_reducible refine gate_dst (N := 5) rfl ?_); refine box_event ?hg (N := 5) ?hd (cs := #[.int .u64 a1_0, .int .u64 a1_1]) (t := 89) ?hr ?_; (case hd => rfl); (case hg => rfl); (case hr => first | (go_simp; done) | (go_simp; rfl)); intro gb301 hg w35 hbox hb; have BK301 := Aside0.mk (hbox); have GW301 := ge HB hg; have GE301 := ge HB hg; replace HB := bs HB hb; clear hb hbox hg) | ((with_reducible refine gate_dst (N := 7) rfl ?_); refine box_event ?hg (N := 7) ?hd (cs := #[.int .u64 a3_0, .int .u64 a3_1]) (t := 89) ?hr ?_; (case hd => rfl); (case hg => rfl); (case hr => first | (go_simp; done) | (go_simp; rfl)); intro gb302 hg w36 hbox hb; have BK302 := Aside0.mk (hbox); have GW302 := ge HB hg; have GE302 := ge HB hg; have NB301_302 := nl BK301 hg; have NB302_301 := ng NB301_302; replace BK301 := bb BK301 hb; replace HB := bs HB hb; clear hb hbox hg) | ((with_reducible refine gate_dst (N := 8) rfl ?_); refine box_event ?hg (N := 8) ?hd (cs := #[.int .i64 0, .int .u64 0]) (t := 35) ?hr ?_; (case hd => rfl); (case hg => rfl); (case hr => first | (go_simp; done) | (go_simp; rfl)); intro gb303 hg w37 hbox hb; have BK303 := Aside0.mk (hbox); have GW303 := ge HB hg; have GE303 := ge HB hg; have NB301_303 := nl BK301 hg; have NB303_301 := ng NB301_303; have NB302_303 := nl BK302 hg; have NB303_302 := ng NB302_303; replace BK301 := bb BK301 hb; replace BK302 := bb BK302 hb; replace HB := bs HB hb; clear hb hbox hg))
        replace BK301 := bd1 BK301
        replace BK302 := bd1 BK302
        replace BK303 := bd1 BK303
        replace HB := hb1 HB
        refine start_ (n := 6) (S := fun w' => w'.cell? ⟨gb301, 0, none⟩ = some (.int .u64 a1_0) ∧ w'.cell? ⟨gb301, 1, none⟩ = some (.int .u64 a1_1)) (ds := []) #[false, false, false, false, false, false] (by kernel_rfl) rfl rfl ⟨(blk_cell BK301.out 0).trans rfl, (blk_cell BK301.out 1).trans rfl⟩ (fun hHeld => ?_)
        generalize w37.drew = w38 at BK301 BK302 BK303 HB hHeld ⊢
        refine pure_ (i := 0) (N := some 15) (v := ?_) (a' := ?_) #[true, false, false, false, false, false] rfl rfl (by kernel_rfl) (fun _ _ _ h => h) (Or.inl ⟨by rfl, ?_⟩) ?_ ?_
        rotate_left
        · intro w'
          go_simp
          with_reducible rfl
        rotate_left
        · simp only [Act.put, List.setIfInBounds_toArray, List.set_cons_zero, List.set_cons_succ, i64_w, i32_w]
          rfl
        refine take_ (i := 1) (N := some 16) (v := ?_) (a' := ?_) #[true, true, false, false, false, false] rfl rfl (by kernel_rfl) (fun _ _ _ h => h) (Or.inl ⟨by rfl, ?_⟩) hHeld ?_ ?_
        rotate_left
        · rintro w' ⟨s0, s1⟩
          go_simp
          with_reducible rfl
        rotate_left
        · simp only [Act.put, List.setIfInBounds_toArray, List.set_cons_zero, List.set_cons_succ, i64_w, i32_w]
          rfl
        refine one_ (i := 2) (N := some 11) #[true, true, true, false, false, false] rfl rfl (by kernel_rfl) (by decide) (fun K hK => ?_)
        refine box_step ?hg (N := 11) ?hd (cs := #[.int .u64 0, .int .u64 0]) (t := 89) ?hr ?_; (case hd => rfl); (case hg => rfl); (case hr => first | (go_simp; done) | (go_simp; rfl))
        intro gb304 hg w39 hbox hb
        have BK304 := Aside0.mk (hbox)
        have GW304 := ge HB hg
        have GE304 := ge HB hg
        have NB301_304 := nl BK301 hg
        have NB304_301 := ng NB301_304
        have NB302_304 := nl BK302 hg
        have NB304_302 := ng NB302_304
        have NB303_304 := nl BK303 hg
        have NB304_303 := ng NB303_304
        replace BK301 := bb BK301 hb
        replace BK302 := bb BK302 hb
        replace BK303 := bb BK303 hb
        replace HB := bs HB hb
        clear hb hbox hg
        refine hK.out _ _ ⟨(blk_cell BK301.out 0).trans rfl, (blk_cell BK301.out 1).trans rfl⟩ (fun hHeld => ?_)
        clear hK K
        refine norm_ (a' := ?_) ?_ ?_
        rotate_left
        · show Act.put _ (some 11) _ = _
          simp only [Act.put, List.setIfInBounds_toArray, List.set_cons_zero, List.set_cons_succ, i64_w, i32_w]
          rfl
        refine pure_ (i := 3) (N := some 10) (v := ?_) (a' := ?_) #[true, true, true, true, false, false] rfl rfl (by kernel_rfl) (fun _ _ _ h => h) (Or.inl ⟨by rfl, ?_⟩) ?_ ?_
        rotate_left
        · intro w'
          go_simp
          with_reducible rfl
        rotate_left
        · simp only [Act.put, List.setIfInBounds_toArray, List.set_cons_zero, List.set_cons_succ, i64_w, i32_w]
          rfl
        refine one_ (i := 4) (N := none) #[true, true, true, true, true, false] rfl rfl (by kernel_rfl) (by decide) (fun K hK => ?_)
        have hs40 : w39.cell? ⟨gb304, 0, none⟩ = some (.int .u64 0) := (blk_cell BK304.out 0).trans rfl
        have hfs40 := blk_frozen BK304.out 0
        have hns40_0 := NB301_304.out
        have hns40_1 := NB302_304.out
        have hns40_2 := NB303_304.out
        have hms40_0 := NB304_301.out
        have hms40_1 := NB304_302.out
        have hms40_2 := NB304_303.out
        have hs41 : w39.cell? ⟨gb304, 1, none⟩ = some (.int .u64 0) := (blk_cell BK304.out 1).trans rfl
        have hfs41 := blk_frozen BK304.out 1
        have hns41_0 := NB301_304.out
        have hns41_1 := NB302_304.out
        have hns41_2 := NB303_304.out
        have hms41_0 := NB304_301.out
        have hms41_1 := NB304_302.out
        have hms41_2 := NB304_303.out
        refine skip_ (w1 := ?_) (by rfl) rfl ?_ ?_
        rotate_left
        · go_simp
          rfl
        refine hK.out _ _ ⟨((cell_far (p := ⟨gb304, _, none⟩) NB301_304.out _).trans (((cell_far (p := ⟨gb304, _, none⟩) NB301_304.out _).trans (hHeld.1)))), ((cell_far (p := ⟨gb304, _, none⟩) NB301_304.out _).trans (((cell_far (p := ⟨gb304, _, none⟩) NB301_304.out _).trans (hHeld.2))))⟩ (fun hHeld => ?_)
        clear hK K
        refine pure_ (i := 5) (N := some 12) (v := ?_) (a' := ?_) #[true, true, true, true, true, true] rfl rfl (by kernel_rfl) (fun _ _ _ h => h) (Or.inl ⟨by rfl, ?_⟩) ?_ ?_
        rotate_left
        · intro w'
          go_simp
          with_reducible rfl
        rotate_left
        · simp only [Act.put, List.setIfInBounds_toArray, List.set_cons_zero, List.set_cons_succ, i64_w, i32_w]
          rfl
        refine done_ (by kernel_rfl) ?_
        have hnb42 := NB301_302.out
        have hnc42 := NB302_301.out
        have hnb43 := NB301_303.out
        have hnc43 := NB303_301.out
        have hnb44 := NB301_304.out
        have hnc44 := NB304_301.out
        obtain ⟨hcz45_0, hcz45_1, hfz45_0, hfz45_1⟩ := cz2 BK301
        have hnb46 := NB302_303.out
        have hnc46 := NB303_302.out
        have hnb47 := NB302_304.out
        have hnc47 := NB304_302.out
        obtain ⟨hcz48_0, hcz48_1, hfz48_0, hfz48_1⟩ := cz2 BK302
        try go_wp2_with (first | ((with_reducible refine gate_callee (f := 70) rfl ?_); refine goesL_ (some 27) rfl rfl Try.func70 (by kernel_rfl) rfl #[.agg #[.int .u64 a1_0, .int .u64 a1_1], .agg #[.int .u64 a3_0, .int .u64 a3_1]] rfl zm ?_; (with_reducible refine (corebankref01_plus.calls a1_0 a1_1 a3_0 a3_1 t305 t306 true _ A6.out).mono ?_); rintro e w49 ⟨rfl, hb⟩; refine ⟨_, rfl, ?_⟩; replace BK301 := bb BK301 hb; replace BK302 := bb BK302 hb; replace BK303 := bb BK303 hb; replace BK304 := bpb BK304 hb #[.int .u64 a1_0, .int .u64 a1_1]; replace HB := bs HB hb; (try clear hb); (try clear hb2); (try clear hk); (try clear hi); have hnb50 := NB304_303.out; have hnc50 := NB303_304.out; obtain ⟨hcz51_0, hcz51_1, hfz51_0, hfz51_1⟩ := cz2 BK304) | ((with_reducible refine gate_callee (f := 69) rfl ?_); refine goesL_ (some 41) rfl rfl Try.func69 (by kernel_rfl) rfl #[.bool a0, .agg #[.int .u64 t305, .int .u64 t306]] rfl zm ?_; (with_reducible refine (corebankref01_Join.calls a0 t305 t306 t308 t309 false _ A7.out).mono ?_); rintro e w52 ⟨rfl, hb⟩; refine ⟨_, rfl, ?_⟩; replace BK301 := bb BK301 hb; replace BK302 := bb BK302 hb; replace BK303 := bb BK303 hb; replace BK304 := bpb BK304 hb #[.int .u64 t305, .int .u64 t306]; replace HB := bs HB hb; (try clear hb); (try clear hb2); (try clear hk); (try clear hi)) | ((with_reducible refine gate_dst (N := 13) rfl ?_); refine box_event ?hg (N := 13) ?hd (cs := #[.int .i64 0, .int .u64 0]) (t := 35) ?hr ?_; (case hd => rfl); (case hg => rfl); (case hr => first | (go_simp; done) | (go_simp; rfl)); intro gb311 hg w53 hbox hb; have BK311 := Aside0.mk (hbox); have GW311 := ge HB hg; have GE311 := ge HB hg; have NB301_311 := nl BK301 hg; have NB311_301 := ng NB301_311; have NB302_311 := nl BK302 hg; have NB311_302 := ng NB302_311; have NB303_311 := nl BK303 hg; have NB311_303 := ng NB303_311; have NB304_311 := nl BK304 hg; have NB311_304 := ng NB304_311; replace BK301 := bb BK301 hb; replace BK302 := bb BK302 hb; replace BK303 := bb BK303 hb; replace BK304 := bb BK304 hb; replace HB := bs HB hb; clear hb hbox hg; have hnb54 := NB311_301.out; have hnc54 := NB301_311.out; have hnb55 := NB311_302.out; have hnc55 := NB302_311.out; have hnb56 := NB311_303.out; have hnc56 := NB303_311.out; have hnb57 := NB311_304.out; have hnc57 := NB304_311.out; obtain ⟨hcz58_0, hcz58_1, hfz58_0, hfz58_1⟩ := cz2 BK311; obtain ⟨hcz59_0, hcz59_1, hfz59_0, hfz59_1⟩ := cz2 BK303))
        refine bodyPost_ret (results_ct rfl _ _ gb303 35 #[.int .i64 0, .int .u64 0] (0, 0) _ rfl (bp BK303) Try.underlying35 rfl (by kernel_rfl)) rfl ?_
        exact ⟨by first | rfl | (simp [errW_none, errW_some] <;> rfl) | (simp [*, errW_none, errW_some] <;> rfl), hq HB⟩
    · replace c8 := Bool.eq_false_iff.mpr c8
      subst c8
      have H1 : (some (0, 0, 6)) = some (r1, r2, r3) := by rw [if_neg (show ¬ (false = true) by decide)] at H; exact H
      clear H
      have H := H1
      clear H1
      simp only [Option.some.injEq, Prod.mk.injEq] at H
      obtain ⟨rfl, rfl, rfl⟩ := H
      go_enter Try.func49, Try.ntmps49
      try go_wp2_with (first | ((with_reducible refine gate_dst (N := 5) rfl ?_); refine box_event ?hg (N := 5) ?hd (cs := #[.int .u64 a1_0, .int .u64 a1_1]) (t := 89) ?hr ?_; (case hd => rfl); (case hg => rfl); (case hr => first | (go_simp; done) | (go_simp; rfl)); intro gb301 hg w60 hbox hb; have BK301 := Aside0.mk (hbox); have GW301 := ge HB hg; have GE301 := ge HB hg; replace HB := bs HB hb; clear hb hbox hg) | ((with_reducible refine gate_dst (N := 7) rfl ?_); refine box_event ?hg (N := 7) ?hd (cs := #[.int .u64 a3_0, .int .u64 a3_1]) (t := 89) ?hr ?_; (case hd => rfl); (case hg => rfl); (case hr => first | (go_simp; done) | (go_simp; rfl)); intro gb302 hg w61 hbox hb; have BK302 := Aside0.mk (hbox); have GW302 := ge HB hg; have GE302 := ge HB hg; have NB301_302 := nl BK301 hg; have NB302_301 := ng NB301_302; replace BK301 := bb BK301 hb; replace HB := bs HB hb; clear hb hbox hg) | ((with_reducible refine gate_dst (N := 8) rfl ?_); refine box_event ?hg (N := 8) ?hd (cs := #[.int .i64 0, .int .u64 0]) (t := 35) ?hr ?_; (case hd => rfl); (case hg => rfl); (case hr => first | (go_simp; done) | (go_simp; rfl)); intro gb303 hg w62 hbox hb; have BK303 := Aside0.mk (hbox); have GW303 := ge HB hg; have GE303 := ge HB hg; have NB301_303 := nl BK301 hg; have NB303_301 := ng NB301_303; have NB302_303 := nl BK302 hg; have NB303_302 := ng NB302_303; replace BK301 := bb BK301 hb; replace BK302 := bb BK302 hb; replace HB := bs HB hb; clear hb hbox hg))
      replace BK301 := bd1 BK301
      replace BK302 := bd1 BK302
      replace BK303 := bd1 BK303
      replace HB := hb1 HB
      refine start_ (n := 6) (S := fun w' => w'.cell? ⟨gb301, 0, none⟩ = some (.int .u64 a1_0) ∧ w'.cell? ⟨gb301, 1, none⟩ = some (.int .u64 a1_1)) (ds := []) #[false, false, false, false, false, false] (by kernel_rfl) rfl rfl ⟨(blk_cell BK301.out 0).trans rfl, (blk_cell BK301.out 1).trans rfl⟩ (fun hHeld => ?_)
      generalize w62.drew = w63 at BK301 BK302 BK303 HB hHeld ⊢
      refine pure_ (i := 0) (N := some 15) (v := ?_) (a' := ?_) #[true, false, false, false, false, false] rfl rfl (by kernel_rfl) (fun _ _ _ h => h) (Or.inl ⟨by rfl, ?_⟩) ?_ ?_
      rotate_left
      · intro w'
        go_simp
        with_reducible rfl
      rotate_left
      · simp only [Act.put, List.setIfInBounds_toArray, List.set_cons_zero, List.set_cons_succ, i64_w, i32_w]
        rfl
      refine take_ (i := 1) (N := some 16) (v := ?_) (a' := ?_) #[true, true, false, false, false, false] rfl rfl (by kernel_rfl) (fun _ _ _ h => h) (Or.inl ⟨by rfl, ?_⟩) hHeld ?_ ?_
      rotate_left
      · rintro w' ⟨s0, s1⟩
        go_simp
        with_reducible rfl
      rotate_left
      · simp only [Act.put, List.setIfInBounds_toArray, List.set_cons_zero, List.set_cons_succ, i64_w, i32_w]
        rfl
      refine one_ (i := 2) (N := some 11) #[true, true, true, false, false, false] rfl rfl (by kernel_rfl) (by decide) (fun K hK => ?_)
      refine box_step ?hg (N := 11) ?hd (cs := #[.int .u64 0, .int .u64 0]) (t := 89) ?hr ?_; (case hd => rfl); (case hg => rfl); (case hr => first | (go_simp; done) | (go_simp; rfl))
      intro gb304 hg w64 hbox hb
      have BK304 := Aside0.mk (hbox)
      have GW304 := ge HB hg
      have GE304 := ge HB hg
      have NB301_304 := nl BK301 hg
      have NB304_301 := ng NB301_304
      have NB302_304 := nl BK302 hg
      have NB304_302 := ng NB302_304
      have NB303_304 := nl BK303 hg
      have NB304_303 := ng NB303_304
      replace BK301 := bb BK301 hb
      replace BK302 := bb BK302 hb
      replace BK303 := bb BK303 hb
      replace HB := bs HB hb
      clear hb hbox hg
      refine hK.out _ _ ⟨(blk_cell BK301.out 0).trans rfl, (blk_cell BK301.out 1).trans rfl⟩ (fun hHeld => ?_)
      clear hK K
      refine norm_ (a' := ?_) ?_ ?_
      rotate_left
      · show Act.put _ (some 11) _ = _
        simp only [Act.put, List.setIfInBounds_toArray, List.set_cons_zero, List.set_cons_succ, i64_w, i32_w]
        rfl
      refine pure_ (i := 3) (N := some 10) (v := ?_) (a' := ?_) #[true, true, true, true, false, false] rfl rfl (by kernel_rfl) (fun _ _ _ h => h) (Or.inl ⟨by rfl, ?_⟩) ?_ ?_
      rotate_left
      · intro w'
        go_simp
        with_reducible rfl
      rotate_left
      · simp only [Act.put, List.setIfInBounds_toArray, List.set_cons_zero, List.set_cons_succ, i64_w, i32_w]
        rfl
      refine one_ (i := 4) (N := none) #[true, true, true, true, true, false] rfl rfl (by kernel_rfl) (by decide) (fun K hK => ?_)
      have hs65 : w64.cell? ⟨gb304, 0, none⟩ = some (.int .u64 0) := (blk_cell BK304.out 0).trans rfl
      have hfs65 := blk_frozen BK304.out 0
      have hns65_0 := NB301_304.out
      have hns65_1 := NB302_304.out
      have hns65_2 := NB303_304.out
      have hms65_0 := NB304_301.out
      have hms65_1 := NB304_302.out
      have hms65_2 := NB304_303.out
      have hs66 : w64.cell? ⟨gb304, 1, none⟩ = some (.int .u64 0) := (blk_cell BK304.out 1).trans rfl
      have hfs66 := blk_frozen BK304.out 1
      have hns66_0 := NB301_304.out
      have hns66_1 := NB302_304.out
      have hns66_2 := NB303_304.out
      have hms66_0 := NB304_301.out
      have hms66_1 := NB304_302.out
      have hms66_2 := NB304_303.out
      refine skip_ (w1 := ?_) (by rfl) rfl ?_ ?_
      rotate_left
      · go_simp
        rfl
      refine hK.out _ _ ⟨((cell_far (p := ⟨gb304, _, none⟩) NB301_304.out _).trans (((cell_far (p := ⟨gb304, _, none⟩) NB301_304.out _).trans (hHeld.1)))), ((cell_far (p := ⟨gb304, _, none⟩) NB301_304.out _).trans (((cell_far (p := ⟨gb304, _, none⟩) NB301_304.out _).trans (hHeld.2))))⟩ (fun hHeld => ?_)
      clear hK K
      refine pure_ (i := 5) (N := some 12) (v := ?_) (a' := ?_) #[true, true, true, true, true, true] rfl rfl (by kernel_rfl) (fun _ _ _ h => h) (Or.inl ⟨by rfl, ?_⟩) ?_ ?_
      rotate_left
      · intro w'
        go_simp
        with_reducible rfl
      rotate_left
      · simp only [Act.put, List.setIfInBounds_toArray, List.set_cons_zero, List.set_cons_succ, i64_w, i32_w]
        rfl
      refine done_ (by kernel_rfl) ?_
      have hnb67 := NB301_302.out
      have hnc67 := NB302_301.out
      have hnb68 := NB301_303.out
      have hnc68 := NB303_301.out
      have hnb69 := NB301_304.out
      have hnc69 := NB304_301.out
      obtain ⟨hcz70_0, hcz70_1, hfz70_0, hfz70_1⟩ := cz2 BK301
      have hnb71 := NB302_303.out
      have hnc71 := NB303_302.out
      have hnb72 := NB302_304.out
      have hnc72 := NB304_302.out
      obtain ⟨hcz73_0, hcz73_1, hfz73_0, hfz73_1⟩ := cz2 BK302
      try go_wp2_with (first | ((with_reducible refine gate_callee (f := 70) rfl ?_); refine goesL_ (some 27) rfl rfl Try.func70 (by kernel_rfl) rfl #[.agg #[.int .u64 a1_0, .int .u64 a1_1], .agg #[.int .u64 a3_0, .int .u64 a3_1]] rfl zm ?_; (with_reducible refine (corebankref01_plus.calls a1_0 a1_1 a3_0 a3_1 t305 t306 false _ A6.out).mono ?_); rintro e w74 ⟨rfl, hb⟩; refine ⟨_, rfl, ?_⟩; replace BK301 := bb BK301 hb; replace BK302 := bb BK302 hb; replace BK303 := bb BK303 hb; replace BK304 := bpb BK304 hb #[.int .u64 a1_0, .int .u64 a1_1]; replace HB := bs HB hb; (try clear hb); (try clear hb2); (try clear hk); (try clear hi); have hnb75 := NB304_303.out; have hnc75 := NB303_304.out; obtain ⟨hcz76_0, hcz76_1, hfz76_0, hfz76_1⟩ := cz2 BK304) | ((with_reducible refine gate_callee (f := 69) rfl ?_); refine goesL_ (some 41) rfl rfl Try.func69 (by kernel_rfl) rfl #[.bool a0, .agg #[.int .u64 t305, .int .u64 t306]] rfl zm ?_; (with_reducible refine (corebankref01_Join.calls a0 t305 t306 t308 t309 t310 _ A7.out).mono ?_); rintro e w77 ⟨rfl, hb⟩; refine ⟨_, rfl, ?_⟩; replace BK301 := bb BK301 hb; replace BK302 := bb BK302 hb; replace BK303 := bb BK303 hb; replace BK304 := bpb BK304 hb #[.int .u64 t305, .int .u64 t306]; replace HB := bs HB hb; (try clear hb); (try clear hb2); (try clear hk); (try clear hi)) | ((with_reducible refine gate_dst (N := 13) rfl ?_); refine box_event ?hg (N := 13) ?hd (cs := #[.int .i64 0, .int .u64 0]) (t := 35) ?hr ?_; (case hd => rfl); (case hg => rfl); (case hr => first | (go_simp; done) | (go_simp; rfl)); intro gb311 hg w78 hbox hb; have BK311 := Aside0.mk (hbox); have GW311 := ge HB hg; have GE311 := ge HB hg; have NB301_311 := nl BK301 hg; have NB311_301 := ng NB301_311; have NB302_311 := nl BK302 hg; have NB311_302 := ng NB302_311; have NB303_311 := nl BK303 hg; have NB311_303 := ng NB303_311; have NB304_311 := nl BK304 hg; have NB311_304 := ng NB304_311; replace BK301 := bb BK301 hb; replace BK302 := bb BK302 hb; replace BK303 := bb BK303 hb; replace BK304 := bb BK304 hb; replace HB := bs HB hb; clear hb hbox hg; have hnb79 := NB311_301.out; have hnc79 := NB301_311.out; have hnb80 := NB311_302.out; have hnc80 := NB302_311.out; have hnb81 := NB311_303.out; have hnc81 := NB303_311.out; have hnb82 := NB311_304.out; have hnc82 := NB304_311.out; obtain ⟨hcz83_0, hcz83_1, hfz83_0, hfz83_1⟩ := cz2 BK311; obtain ⟨hcz84_0, hcz84_1, hfz84_0, hfz84_1⟩ := cz2 BK303))
      refine bodyPost_ret (results_ct rfl _ _ gb303 35 #[.int .i64 0, .int .u64 0] (0, 0) _ rfl (bp BK303) Try.underlying35 rfl (by kernel_rfl)) rfl ?_
      exact ⟨by first | rfl | (simp [errW_none, errW_some] <;> rfl) | (simp [*, errW_none, errW_some] <;> rfl), hq HB⟩
  · rw [if_neg c5] at H
    have c5b0 : (a0 == a2) = false := by simpa using c5
    (try (have c5b1 : decide (a0 = a2) = false := by simpa using c5))
    (try (have c5b2 : (a0 == a2) = false := by simpa using c5))
    (try (have c5b3 : ¬ (a0 = a2) := by simpa using c5))
    clear c5
    replace H := Option.bind_eq_some_iff.mp H
    obtain ⟨t312, A850, H⟩ := H
    replace H : (if t312 = true then ((corebankref01_minus.f a3_0 a3_1 a1_0 a1_1).bind fun bt313 => ((corebankref01_Join.f a2 bt313.1 bt313.2).bind fun bt315 => (if bt315.2.2 = true then (some (bt315.1, bt315.2.1, 0)) else (some (0, 0, 6))))) else ((corebankref01_minus.f a1_0 a1_1 a3_0 a3_1).bind fun bt319 => ((corebankref01_Join.f a0 bt319.1 bt319.2).bind fun bt321 => (if bt321.2.2 = true then (some (bt321.1, bt321.2.1, 0)) else (some (0, 0, 6)))))) = some (r1, r2, r3) := H
    have A85 := Aside0.mk A850
    clear A850
    by_cases c86 : t312 = true
    · subst c86
      have H1 : ((corebankref01_minus.f a3_0 a3_1 a1_0 a1_1).bind fun bt313 => ((corebankref01_Join.f a2 bt313.1 bt313.2).bind fun bt315 => (if bt315.2.2 = true then (some (bt315.1, bt315.2.1, 0)) else (some (0, 0, 6))))) = some (r1, r2, r3) := by rw [if_pos rfl] at H; exact H
      clear H
      have H := H1
      clear H1
      replace H := Option.bind_eq_some_iff.mp H
      obtain ⟨⟨t313, t314⟩, A870, H⟩ := H
      replace H : ((corebankref01_Join.f a2 t313 t314).bind fun bt315 => (if bt315.2.2 = true then (some (bt315.1, bt315.2.1, 0)) else (some (0, 0, 6)))) = some (r1, r2, r3) := H
      have A87 := Aside0.mk A870
      clear A870
      replace H := Option.bind_eq_some_iff.mp H
      obtain ⟨⟨t315, t316, t317⟩, A880, H⟩ := H
      replace H : (if t317 = true then (some (t315, t316, 0)) else (some (0, 0, 6))) = some (r1, r2, r3) := H
      have A88 := Aside0.mk A880
      clear A880
      by_cases c89 : t317 = true
      · subst c89
        have H1 : (some (t315, t316, 0)) = some (r1, r2, r3) := by rw [if_pos rfl] at H; exact H
        clear H
        have H := H1
        clear H1
        simp only [Option.some.injEq, Prod.mk.injEq] at H
        obtain ⟨rfl, rfl, rfl⟩ := H
        go_enter Try.func49, Try.ntmps49
        try go_wp2_with (first | ((with_reducible refine gate_dst (N := 5) rfl ?_); refine box_event ?hg (N := 5) ?hd (cs := #[.int .u64 a1_0, .int .u64 a1_1]) (t := 89) ?hr ?_; (case hd => rfl); (case hg => rfl); (case hr => first | (go_simp; done) | (go_simp; rfl)); intro gb301 hg w90 hbox hb; have BK301 := Aside0.mk (hbox); have GW301 := ge HB hg; have GE301 := ge HB hg; replace HB := bs HB hb; clear hb hbox hg) | ((with_reducible refine gate_dst (N := 7) rfl ?_); refine box_event ?hg (N := 7) ?hd (cs := #[.int .u64 a3_0, .int .u64 a3_1]) (t := 89) ?hr ?_; (case hd => rfl); (case hg => rfl); (case hr => first | (go_simp; done) | (go_simp; rfl)); intro gb302 hg w91 hbox hb; have BK302 := Aside0.mk (hbox); have GW302 := ge HB hg; have GE302 := ge HB hg; have NB301_302 := nl BK301 hg; have NB302_301 := ng NB301_302; replace BK301 := bb BK301 hb; replace HB := bs HB hb; clear hb hbox hg) | ((with_reducible refine gate_dst (N := 8) rfl ?_); refine box_event ?hg (N := 8) ?hd (cs := #[.int .i64 0, .int .u64 0]) (t := 35) ?hr ?_; (case hd => rfl); (case hg => rfl); (case hr => first | (go_simp; done) | (go_simp; rfl)); intro gb303 hg w92 hbox hb; have BK303 := Aside0.mk (hbox); have GW303 := ge HB hg; have GE303 := ge HB hg; have NB301_303 := nl BK301 hg; have NB303_301 := ng NB301_303; have NB302_303 := nl BK302 hg; have NB303_302 := ng NB302_303; replace BK301 := bb BK301 hb; replace BK302 := bb BK302 hb; replace HB := bs HB hb; clear hb hbox hg))
        replace BK301 := bd1 BK301
        replace BK302 := bd1 BK302
        replace BK303 := bd1 BK303
        replace HB := hb1 HB
        refine start_ (n := 6) (S := fun w' => w'.cell? ⟨gb301, 0, none⟩ = some (.int .u64 a1_0) ∧ w'.cell? ⟨gb301, 1, none⟩ = some (.int .u64 a1_1)) (ds := []) #[false, false, false, false, false, false] (by kernel_rfl) rfl rfl ⟨(blk_cell BK301.out 0).trans rfl, (blk_cell BK301.out 1).trans rfl⟩ (fun hHeld => ?_)
        generalize w92.drew = w93 at BK301 BK302 BK303 HB hHeld ⊢
        refine pure_ (i := 0) (N := some 15) (v := ?_) (a' := ?_) #[true, false, false, false, false, false] rfl rfl (by kernel_rfl) (fun _ _ _ h => h) (Or.inl ⟨by rfl, ?_⟩) ?_ ?_
        rotate_left
        · intro w'
          go_simp
          with_reducible rfl
        rotate_left
        · simp only [Act.put, List.setIfInBounds_toArray, List.set_cons_zero, List.set_cons_succ, i64_w, i32_w]
          rfl
        refine take_ (i := 1) (N := some 16) (v := ?_) (a' := ?_) #[true, true, false, false, false, false] rfl rfl (by kernel_rfl) (fun _ _ _ h => h) (Or.inl ⟨by rfl, ?_⟩) hHeld ?_ ?_
        rotate_left
        · rintro w' ⟨s0, s1⟩
          go_simp
          with_reducible rfl
        rotate_left
        · simp only [Act.put, List.setIfInBounds_toArray, List.set_cons_zero, List.set_cons_succ, i64_w, i32_w]
          rfl
        refine one_ (i := 2) (N := some 11) #[true, true, true, false, false, false] rfl rfl (by kernel_rfl) (by decide) (fun K hK => ?_)
        refine box_step ?hg (N := 11) ?hd (cs := #[.int .u64 0, .int .u64 0]) (t := 89) ?hr ?_; (case hd => rfl); (case hg => rfl); (case hr => first | (go_simp; done) | (go_simp; rfl))
        intro gb304 hg w94 hbox hb
        have BK304 := Aside0.mk (hbox)
        have GW304 := ge HB hg
        have GE304 := ge HB hg
        have NB301_304 := nl BK301 hg
        have NB304_301 := ng NB301_304
        have NB302_304 := nl BK302 hg
        have NB304_302 := ng NB302_304
        have NB303_304 := nl BK303 hg
        have NB304_303 := ng NB303_304
        replace BK301 := bb BK301 hb
        replace BK302 := bb BK302 hb
        replace BK303 := bb BK303 hb
        replace HB := bs HB hb
        clear hb hbox hg
        refine hK.out _ _ ⟨(blk_cell BK301.out 0).trans rfl, (blk_cell BK301.out 1).trans rfl⟩ (fun hHeld => ?_)
        clear hK K
        refine norm_ (a' := ?_) ?_ ?_
        rotate_left
        · show Act.put _ (some 11) _ = _
          simp only [Act.put, List.setIfInBounds_toArray, List.set_cons_zero, List.set_cons_succ, i64_w, i32_w]
          rfl
        refine pure_ (i := 3) (N := some 10) (v := ?_) (a' := ?_) #[true, true, true, true, false, false] rfl rfl (by kernel_rfl) (fun _ _ _ h => h) (Or.inl ⟨by rfl, ?_⟩) ?_ ?_
        rotate_left
        · intro w'
          go_simp
          with_reducible rfl
        rotate_left
        · simp only [Act.put, List.setIfInBounds_toArray, List.set_cons_zero, List.set_cons_succ, i64_w, i32_w]
          rfl
        refine one_ (i := 4) (N := none) #[true, true, true, true, true, false] rfl rfl (by kernel_rfl) (by decide) (fun K hK => ?_)
        have hs95 : w94.cell? ⟨gb304, 0, none⟩ = some (.int .u64 0) := (blk_cell BK304.out 0).trans rfl
        have hfs95 := blk_frozen BK304.out 0
        have hns95_0 := NB301_304.out
        have hns95_1 := NB302_304.out
        have hns95_2 := NB303_304.out
        have hms95_0 := NB304_301.out
        have hms95_1 := NB304_302.out
        have hms95_2 := NB304_303.out
        have hs96 : w94.cell? ⟨gb304, 1, none⟩ = some (.int .u64 0) := (blk_cell BK304.out 1).trans rfl
        have hfs96 := blk_frozen BK304.out 1
        have hns96_0 := NB301_304.out
        have hns96_1 := NB302_304.out
        have hns96_2 := NB303_304.out
        have hms96_0 := NB304_301.out
        have hms96_1 := NB304_302.out
        have hms96_2 := NB304_303.out
        refine skip_ (w1 := ?_) (by rfl) rfl ?_ ?_
        rotate_left
        · go_simp
          rfl
        refine hK.out _ _ ⟨((cell_far (p := ⟨gb304, _, none⟩) NB301_304.out _).trans (((cell_far (p := ⟨gb304, _, none⟩) NB301_304.out _).trans (hHeld.1)))), ((cell_far (p := ⟨gb304, _, none⟩) NB301_304.out _).trans (((cell_far (p := ⟨gb304, _, none⟩) NB301_304.out _).trans (hHeld.2))))⟩ (fun hHeld => ?_)
        clear hK K
        refine pure_ (i := 5) (N := some 12) (v := ?_) (a' := ?_) #[true, true, true, true, true, true] rfl rfl (by kernel_rfl) (fun _ _ _ h => h) (Or.inl ⟨by rfl, ?_⟩) ?_ ?_
        rotate_left
        · intro w'
          go_simp
          with_reducible rfl
        rotate_left
        · simp only [Act.put, List.setIfInBounds_toArray, List.set_cons_zero, List.set_cons_succ, i64_w, i32_w]
          rfl
        refine done_ (by kernel_rfl) ?_
        have hnb97 := NB301_302.out
        have hnc97 := NB302_301.out
        have hnb98 := NB301_303.out
        have hnc98 := NB303_301.out
        have hnb99 := NB301_304.out
        have hnc99 := NB304_301.out
        obtain ⟨hcz100_0, hcz100_1, hfz100_0, hfz100_1⟩ := cz2 BK301
        have hnb101 := NB302_303.out
        have hnc101 := NB303_302.out
        have hnb102 := NB302_304.out
        have hnc102 := NB304_302.out
        obtain ⟨hcz103_0, hcz103_1, hfz103_0, hfz103_1⟩ := cz2 BK302
        try go_wp2_with (first | ((with_reducible refine gate_callee (f := 71) rfl ?_); refine goesL_ (some 33) rfl rfl Try.func71 (by kernel_rfl) rfl #[.agg #[.int .u64 a1_0, .int .u64 a1_1], .agg #[.int .u64 a3_0, .int .u64 a3_1]] rfl zm ?_; (with_reducible refine (corebankref01_Less.calls a1_0 a1_1 a3_0 a3_1 true _ A85.out).mono ?_); rintro e w104 ⟨rfl, hb⟩; refine ⟨_, rfl, ?_⟩; replace BK301 := bb BK301 hb; replace BK302 := bb BK302 hb; replace BK303 := bb BK303 hb; replace BK304 := bpb BK304 hb #[.int .u64 a1_0, .int .u64 a1_1]; replace HB := bs HB hb; (try clear hb); (try clear hb2); (try clear hk); (try clear hi); obtain ⟨hcz105_0, hcz105_1, hfz105_0, hfz105_1⟩ := cz2 BK302; obtain ⟨hcz106_0, hcz106_1, hfz106_0, hfz106_1⟩ := cz2 BK301) | ((with_reducible refine gate_callee (f := 72) rfl ?_); refine goesL_ (some 37) rfl rfl Try.func72 (by kernel_rfl) rfl #[.agg #[.int .u64 a3_0, .int .u64 a3_1], .agg #[.int .u64 a1_0, .int .u64 a1_1]] rfl zm ?_; (with_reducible refine (corebankref01_minus.calls a3_0 a3_1 a1_0 a1_1 t313 t314 _ A87.out).mono ?_); rintro e w107 ⟨rfl, hb⟩; refine ⟨_, rfl, ?_⟩; replace BK301 := bb BK301 hb; replace BK302 := bb BK302 hb; replace BK303 := bb BK303 hb; replace BK304 := bb BK304 hb; replace HB := bs HB hb; (try clear hb); (try clear hb2); (try clear hk); (try clear hi); have hnb108 := NB304_303.out; have hnc108 := NB303_304.out; obtain ⟨hcz109_0, hcz109_1, hfz109_0, hfz109_1⟩ := cz2 BK304) | ((with_reducible refine gate_callee (f := 69) rfl ?_); refine goesL_ (some 41) rfl rfl Try.func69 (by kernel_rfl) rfl #[.bool a2, .agg #[.int .u64 t313, .int .u64 t314]] rfl zm ?_; (with_reducible refine (corebankref01_Join.calls a2 t313 t314 t315 t316 true _ A88.out).mono ?_); rintro e w110 ⟨rfl, hb⟩; refine ⟨_, rfl, ?_⟩; replace BK301 := bb BK301 hb; replace BK302 := bb BK302 hb; replace BK303 := bb BK303 hb; replace BK304 := bpb BK304 hb #[.int .u64 t313, .int .u64 t314]; replace HB := bs HB hb; (try clear hb); (try clear hb2); (try clear hk); (try clear hi)) | ((with_reducible refine gate_dst (N := 13) rfl ?_); refine box_event ?hg (N := 13) ?hd (cs := #[.int .i64 0, .int .u64 0]) (t := 35) ?hr ?_; (case hd => rfl); (case hg => rfl); (case hr => first | (go_simp; done) | (go_simp; rfl)); intro gb318 hg w111 hbox hb; have BK318 := Aside0.mk (hbox); have GW318 := ge HB hg; have GE318 := ge HB hg; have NB301_318 := nl BK301 hg; have NB318_301 := ng NB301_318; have NB302_318 := nl BK302 hg; have NB318_302 := ng NB302_318; have NB303_318 := nl BK303 hg; have NB318_303 := ng NB303_318; have NB304_318 := nl BK304 hg; have NB318_304 := ng NB304_318; replace BK301 := bb BK301 hb; replace BK302 := bb BK302 hb; replace BK303 := bb BK303 hb; replace BK304 := bb BK304 hb; replace HB := bs HB hb; clear hb hbox hg; have hnb112 := NB318_301.out; have hnc112 := NB301_318.out; have hnb113 := NB318_302.out; have hnc113 := NB302_318.out; have hnb114 := NB318_303.out; have hnc114 := NB303_318.out; have hnb115 := NB318_304.out; have hnc115 := NB304_318.out; obtain ⟨hcz116_0, hcz116_1, hfz116_0, hfz116_1⟩ := cz2 BK318; obtain ⟨hcz117_0, hcz117_1, hfz117_0, hfz117_1⟩ := cz2 BK303))
        refine bodyPost_ret (results_ct rfl _ _ gb303 35 #[.int .i64 t315, .int .u64 t316] (0, 0) _ rfl (bp BK303) Try.underlying35 rfl (by kernel_rfl)) rfl ?_
        exact ⟨by first | rfl | (simp [errW_none, errW_some] <;> rfl) | (simp [*, errW_none, errW_some] <;> rfl), hq HB⟩
      · replace c89 := Bool.eq_false_iff.mpr c89
        subst c89
        have H1 : (some (0, 0, 6)) = some (r1, r2, r3) := by rw [if_neg (show ¬ (false = true) by decide)] at H; exact H
        clear H
        have H := H1
        clear H1
        simp only [Option.some.injEq, Prod.mk.injEq] at H
        obtain ⟨rfl, rfl, rfl⟩ := H
        go_enter Try.func49, Try.ntmps49
        try go_wp2_with (first | ((with_reducible refine gate_dst (N := 5) rfl ?_); refine box_event ?hg (N := 5) ?hd (cs := #[.int .u64 a1_0, .int .u64 a1_1]) (t := 89) ?hr ?_; (case hd => rfl); (case hg => rfl); (case hr => first | (go_simp; done) | (go_simp; rfl)); intro gb301 hg w118 hbox hb; have BK301 := Aside0.mk (hbox); have GW301 := ge HB hg; have GE301 := ge HB hg; replace HB := bs HB hb; clear hb hbox hg) | ((with_reducible refine gate_dst (N := 7) rfl ?_); refine box_event ?hg (N := 7) ?hd (cs := #[.int .u64 a3_0, .int .u64 a3_1]) (t := 89) ?hr ?_; (case hd => rfl); (case hg => rfl); (case hr => first | (go_simp; done) | (go_simp; rfl)); intro gb302 hg w119 hbox hb; have BK302 := Aside0.mk (hbox); have GW302 := ge HB hg; have GE302 := ge HB hg; have NB301_302 := nl BK301 hg; have NB302_301 := ng NB301_302; replace BK301 := bb BK301 hb; replace HB := bs HB hb; clear hb hbox hg) | ((with_reducible refine gate_dst (N := 8) rfl ?_); refine box_event ?hg (N := 8) ?hd (cs := #[.int .i64 0, .int .u64 0]) (t := 35) ?hr ?_; (case hd => rfl); (case hg => rfl); (case hr => first | (go_simp; done) | (go_simp; rfl)); intro gb303 hg w120 hbox hb; have BK303 := Aside0.mk (hbox); have GW303 := ge HB hg; have GE303 := ge HB hg; have NB301_303 := nl BK301 hg; have NB303_301 := ng NB301_303; have NB302_303 := nl BK302 hg; have NB303_302 := ng NB302_303; replace BK301 := bb BK301 hb; replace BK302 := bb BK302 hb; replace HB := bs HB hb; clear hb hbox hg))
        replace BK301 := bd1 BK301
        replace BK302 := bd1 BK302
        replace BK303 := bd1 BK303
        replace HB := hb1 HB
        refine start_ (n := 6) (S := fun w' => w'.cell? ⟨gb301, 0, none⟩ = some (.int .u64 a1_0) ∧ w'.cell? ⟨gb301, 1, none⟩ = some (.int .u64 a1_1)) (ds := []) #[false, false, false, false, false, false] (by kernel_rfl) rfl rfl ⟨(blk_cell BK301.out 0).trans rfl, (blk_cell BK301.out 1).trans rfl⟩ (fun hHeld => ?_)
        generalize w120.drew = w121 at BK301 BK302 BK303 HB hHeld ⊢
        refine pure_ (i := 0) (N := some 15) (v := ?_) (a' := ?_) #[true, false, false, false, false, false] rfl rfl (by kernel_rfl) (fun _ _ _ h => h) (Or.inl ⟨by rfl, ?_⟩) ?_ ?_
        rotate_left
        · intro w'
          go_simp
          with_reducible rfl
        rotate_left
        · simp only [Act.put, List.setIfInBounds_toArray, List.set_cons_zero, List.set_cons_succ, i64_w, i32_w]
          rfl
        refine take_ (i := 1) (N := some 16) (v := ?_) (a' := ?_) #[true, true, false, false, false, false] rfl rfl (by kernel_rfl) (fun _ _ _ h => h) (Or.inl ⟨by rfl, ?_⟩) hHeld ?_ ?_
        rotate_left
        · rintro w' ⟨s0, s1⟩
          go_simp
          with_reducible rfl
        rotate_left
        · simp only [Act.put, List.setIfInBounds_toArray, List.set_cons_zero, List.set_cons_succ, i64_w, i32_w]
          rfl
        refine one_ (i := 2) (N := some 11) #[true, true, true, false, false, false] rfl rfl (by kernel_rfl) (by decide) (fun K hK => ?_)
        refine box_step ?hg (N := 11) ?hd (cs := #[.int .u64 0, .int .u64 0]) (t := 89) ?hr ?_; (case hd => rfl); (case hg => rfl); (case hr => first | (go_simp; done) | (go_simp; rfl))
        intro gb304 hg w122 hbox hb
        have BK304 := Aside0.mk (hbox)
        have GW304 := ge HB hg
        have GE304 := ge HB hg
        have NB301_304 := nl BK301 hg
        have NB304_301 := ng NB301_304
        have NB302_304 := nl BK302 hg
        have NB304_302 := ng NB302_304
        have NB303_304 := nl BK303 hg
        have NB304_303 := ng NB303_304
        replace BK301 := bb BK301 hb
        replace BK302 := bb BK302 hb
        replace BK303 := bb BK303 hb
        replace HB := bs HB hb
        clear hb hbox hg
        refine hK.out _ _ ⟨(blk_cell BK301.out 0).trans rfl, (blk_cell BK301.out 1).trans rfl⟩ (fun hHeld => ?_)
        clear hK K
        refine norm_ (a' := ?_) ?_ ?_
        rotate_left
        · show Act.put _ (some 11) _ = _
          simp only [Act.put, List.setIfInBounds_toArray, List.set_cons_zero, List.set_cons_succ, i64_w, i32_w]
          rfl
        refine pure_ (i := 3) (N := some 10) (v := ?_) (a' := ?_) #[true, true, true, true, false, false] rfl rfl (by kernel_rfl) (fun _ _ _ h => h) (Or.inl ⟨by rfl, ?_⟩) ?_ ?_
        rotate_left
        · intro w'
          go_simp
          with_reducible rfl
        rotate_left
        · simp only [Act.put, List.setIfInBounds_toArray, List.set_cons_zero, List.set_cons_succ, i64_w, i32_w]
          rfl
        refine one_ (i := 4) (N := none) #[true, true, true, true, true, false] rfl rfl (by kernel_rfl) (by decide) (fun K hK => ?_)
        have hs123 : w122.cell? ⟨gb304, 0, none⟩ = some (.int .u64 0) := (blk_cell BK304.out 0).trans rfl
        have hfs123 := blk_frozen BK304.out 0
        have hns123_0 := NB301_304.out
        have hns123_1 := NB302_304.out
        have hns123_2 := NB303_304.out
        have hms123_0 := NB304_301.out
        have hms123_1 := NB304_302.out
        have hms123_2 := NB304_303.out
        have hs124 : w122.cell? ⟨gb304, 1, none⟩ = some (.int .u64 0) := (blk_cell BK304.out 1).trans rfl
        have hfs124 := blk_frozen BK304.out 1
        have hns124_0 := NB301_304.out
        have hns124_1 := NB302_304.out
        have hns124_2 := NB303_304.out
        have hms124_0 := NB304_301.out
        have hms124_1 := NB304_302.out
        have hms124_2 := NB304_303.out
        refine skip_ (w1 := ?_) (by rfl) rfl ?_ ?_
        rotate_left
        · go_simp
          rfl
        refine hK.out _ _ ⟨((cell_far (p := ⟨gb304, _, none⟩) NB301_304.out _).trans (((cell_far (p := ⟨gb304, _, none⟩) NB301_304.out _).trans (hHeld.1)))), ((cell_far (p := ⟨gb304, _, none⟩) NB301_304.out _).trans (((cell_far (p := ⟨gb304, _, none⟩) NB301_304.out _).trans (hHeld.2))))⟩ (fun hHeld => ?_)
        clear hK K
        refine pure_ (i := 5) (N := some 12) (v := ?_) (a' := ?_) #[true, true, true, true, true, true] rfl rfl (by kernel_rfl) (fun _ _ _ h => h) (Or.inl ⟨by rfl, ?_⟩) ?_ ?_
        rotate_left
        · intro w'
          go_simp
          with_reducible rfl
        rotate_left
        · simp only [Act.put, List.setIfInBounds_toArray, List.set_cons_zero, List.set_cons_succ, i64_w, i32_w]
          rfl
        refine done_ (by kernel_rfl) ?_
        have hnb125 := NB301_302.out
        have hnc125 := NB302_301.out
        have hnb126 := NB301_303.out
        have hnc126 := NB303_301.out
        have hnb127 := NB301_304.out
        have hnc127 := NB304_301.out
        obtain ⟨hcz128_0, hcz128_1, hfz128_0, hfz128_1⟩ := cz2 BK301
        have hnb129 := NB302_303.out
        have hnc129 := NB303_302.out
        have hnb130 := NB302_304.out
        have hnc130 := NB304_302.out
        obtain ⟨hcz131_0, hcz131_1, hfz131_0, hfz131_1⟩ := cz2 BK302
        try go_wp2_with (first | ((with_reducible refine gate_callee (f := 71) rfl ?_); refine goesL_ (some 33) rfl rfl Try.func71 (by kernel_rfl) rfl #[.agg #[.int .u64 a1_0, .int .u64 a1_1], .agg #[.int .u64 a3_0, .int .u64 a3_1]] rfl zm ?_; (with_reducible refine (corebankref01_Less.calls a1_0 a1_1 a3_0 a3_1 true _ A85.out).mono ?_); rintro e w132 ⟨rfl, hb⟩; refine ⟨_, rfl, ?_⟩; replace BK301 := bb BK301 hb; replace BK302 := bb BK302 hb; replace BK303 := bb BK303 hb; replace BK304 := bpb BK304 hb #[.int .u64 a1_0, .int .u64 a1_1]; replace HB := bs HB hb; (try clear hb); (try clear hb2); (try clear hk); (try clear hi); obtain ⟨hcz133_0, hcz133_1, hfz133_0, hfz133_1⟩ := cz2 BK302; obtain ⟨hcz134_0, hcz134_1, hfz134_0, hfz134_1⟩ := cz2 BK301) | ((with_reducible refine gate_callee (f := 72) rfl ?_); refine goesL_ (some 37) rfl rfl Try.func72 (by kernel_rfl) rfl #[.agg #[.int .u64 a3_0, .int .u64 a3_1], .agg #[.int .u64 a1_0, .int .u64 a1_1]] rfl zm ?_; (with_reducible refine (corebankref01_minus.calls a3_0 a3_1 a1_0 a1_1 t313 t314 _ A87.out).mono ?_); rintro e w135 ⟨rfl, hb⟩; refine ⟨_, rfl, ?_⟩; replace BK301 := bb BK301 hb; replace BK302 := bb BK302 hb; replace BK303 := bb BK303 hb; replace BK304 := bb BK304 hb; replace HB := bs HB hb; (try clear hb); (try clear hb2); (try clear hk); (try clear hi); have hnb136 := NB304_303.out; have hnc136 := NB303_304.out; obtain ⟨hcz137_0, hcz137_1, hfz137_0, hfz137_1⟩ := cz2 BK304) | ((with_reducible refine gate_callee (f := 69) rfl ?_); refine goesL_ (some 41) rfl rfl Try.func69 (by kernel_rfl) rfl #[.bool a2, .agg #[.int .u64 t313, .int .u64 t314]] rfl zm ?_; (with_reducible refine (corebankref01_Join.calls a2 t313 t314 t315 t316 false _ A88.out).mono ?_); rintro e w138 ⟨rfl, hb⟩; refine ⟨_, rfl, ?_⟩; replace BK301 := bb BK301 hb; replace BK302 := bb BK302 hb; replace BK303 := bb BK303 hb; replace BK304 := bpb BK304 hb #[.int .u64 t313, .int .u64 t314]; replace HB := bs HB hb; (try clear hb); (try clear hb2); (try clear hk); (try clear hi)) | ((with_reducible refine gate_dst (N := 13) rfl ?_); refine box_event ?hg (N := 13) ?hd (cs := #[.int .i64 0, .int .u64 0]) (t := 35) ?hr ?_; (case hd => rfl); (case hg => rfl); (case hr => first | (go_simp; done) | (go_simp; rfl)); intro gb318 hg w139 hbox hb; have BK318 := Aside0.mk (hbox); have GW318 := ge HB hg; have GE318 := ge HB hg; have NB301_318 := nl BK301 hg; have NB318_301 := ng NB301_318; have NB302_318 := nl BK302 hg; have NB318_302 := ng NB302_318; have NB303_318 := nl BK303 hg; have NB318_303 := ng NB303_318; have NB304_318 := nl BK304 hg; have NB318_304 := ng NB304_318; replace BK301 := bb BK301 hb; replace BK302 := bb BK302 hb; replace BK303 := bb BK303 hb; replace BK304 := bb BK304 hb; replace HB := bs HB hb; clear hb hbox hg; have hnb140 := NB318_301.out; have hnc140 := NB301_318.out; have hnb141 := NB318_302.out; have hnc141 := NB302_318.out; have hnb142 := NB318_303.out; have hnc142 := NB303_318.out; have hnb143 := NB318_304.out; have hnc143 := NB304_318.out; obtain ⟨hcz144_0, hcz144_1, hfz144_0, hfz144_1⟩ := cz2 BK318; obtain ⟨hcz145_0, hcz145_1, hfz145_0, hfz145_1⟩ := cz2 BK303))
        refine bodyPost_ret (results_ct rfl _ _ gb303 35 #[.int .i64 0, .int .u64 0] (0, 0) _ rfl (bp BK303) Try.underlying35 rfl (by kernel_rfl)) rfl ?_
        exact ⟨by first | rfl | (simp [errW_none, errW_some] <;> rfl) | (simp [*, errW_none, errW_some] <;> rfl), hq HB⟩
    · replace c86 := Bool.eq_false_iff.mpr c86
      subst c86
      have H1 : ((corebankref01_minus.f a1_0 a1_1 a3_0 a3_1).bind fun bt319 => ((corebankref01_Join.f a0 bt319.1 bt319.2).bind fun bt321 => (if bt321.2.2 = true then (some (bt321.1, bt321.2.1, 0)) else (some (0, 0, 6))))) = some (r1, r2, r3) := by rw [if_neg (show ¬ (false = true) by decide)] at H; exact H
      clear H
      have H := H1
      clear H1
      replace H := Option.bind_eq_some_iff.mp H
      obtain ⟨⟨t319, t320⟩, A1460, H⟩ := H
      replace H : ((corebankref01_Join.f a0 t319 t320).bind fun bt321 => (if bt321.2.2 = true then (some (bt321.1, bt321.2.1, 0)) else (some (0, 0, 6)))) = some (r1, r2, r3) := H
      have A146 := Aside0.mk A1460
      clear A1460
      replace H := Option.bind_eq_some_iff.mp H
      obtain ⟨⟨t321, t322, t323⟩, A1470, H⟩ := H
      replace H : (if t323 = true then (some (t321, t322, 0)) else (some (0, 0, 6))) = some (r1, r2, r3) := H
      have A147 := Aside0.mk A1470
      clear A1470
      by_cases c148 : t323 = true
      · subst c148
        have H1 : (some (t321, t322, 0)) = some (r1, r2, r3) := by rw [if_pos rfl] at H; exact H
        clear H
        have H := H1
        clear H1
        simp only [Option.some.injEq, Prod.mk.injEq] at H
        obtain ⟨rfl, rfl, rfl⟩ := H
        go_enter Try.func49, Try.ntmps49
        try go_wp2_with (first | ((with_reducible refine gate_dst (N := 5) rfl ?_); refine box_event ?hg (N := 5) ?hd (cs := #[.int .u64 a1_0, .int .u64 a1_1]) (t := 89) ?hr ?_; (case hd => rfl); (case hg => rfl); (case hr => first | (go_simp; done) | (go_simp; rfl)); intro gb301 hg w149 hbox hb; have BK301 := Aside0.mk (hbox); have GW301 := ge HB hg; have GE301 := ge HB hg; replace HB := bs HB hb; clear hb hbox hg) | ((with_reducible refine gate_dst (N := 7) rfl ?_); refine box_event ?hg (N := 7) ?hd (cs := #[.int .u64 a3_0, .int .u64 a3_1]) (t := 89) ?hr ?_; (case hd => rfl); (case hg => rfl); (case hr => first | (go_simp; done) | (go_simp; rfl)); intro gb302 hg w150 hbox hb; have BK302 := Aside0.mk (hbox); have GW302 := ge HB hg; have GE302 := ge HB hg; have NB301_302 := nl BK301 hg; have NB302_301 := ng NB301_302; replace BK301 := bb BK301 hb; replace HB := bs HB hb; clear hb hbox hg) | ((with_reducible refine gate_dst (N := 8) rfl ?_); refine box_event ?hg (N := 8) ?hd (cs := #[.int .i64 0, .int .u64 0]) (t := 35) ?hr ?_; (case hd => rfl); (case hg => rfl); (case hr => first | (go_simp; done) | (go_simp; rfl)); intro gb303 hg w151 hbox hb; have BK303 := Aside0.mk (hbox); have GW303 := ge HB hg; have GE303 := ge HB hg; have NB301_303 := nl BK301 hg; have NB303_301 := ng NB301_303; have NB302_303 := nl BK302 hg; have NB303_302 := ng NB302_303; replace BK301 := bb BK301 hb; replace BK302 := bb BK302 hb; replace HB := bs HB hb; clear hb hbox hg))
        replace BK301 := bd1 BK301
        replace BK302 := bd1 BK302
        replace BK303 := bd1 BK303
        replace HB := hb1 HB
        refine start_ (n := 6) (S := fun w' => w'.cell? ⟨gb301, 0, none⟩ = some (.int .u64 a1_0) ∧ w'.cell? ⟨gb301, 1, none⟩ = some (.int .u64 a1_1)) (ds := []) #[false, false, false, false, false, false] (by kernel_rfl) rfl rfl ⟨(blk_cell BK301.out 0).trans rfl, (blk_cell BK301.out 1).trans rfl⟩ (fun hHeld => ?_)
        generalize w151.drew = w152 at BK301 BK302 BK303 HB hHeld ⊢
        refine pure_ (i := 0) (N := some 15) (v := ?_) (a' := ?_) #[true, false, false, false, false, false] rfl rfl (by kernel_rfl) (fun _ _ _ h => h) (Or.inl ⟨by rfl, ?_⟩) ?_ ?_
        rotate_left
        · intro w'
          go_simp
          with_reducible rfl
        rotate_left
        · simp only [Act.put, List.setIfInBounds_toArray, List.set_cons_zero, List.set_cons_succ, i64_w, i32_w]
          rfl
        refine take_ (i := 1) (N := some 16) (v := ?_) (a' := ?_) #[true, true, false, false, false, false] rfl rfl (by kernel_rfl) (fun _ _ _ h => h) (Or.inl ⟨by rfl, ?_⟩) hHeld ?_ ?_
        rotate_left
        · rintro w' ⟨s0, s1⟩
          go_simp
          with_reducible rfl
        rotate_left
        · simp only [Act.put, List.setIfInBounds_toArray, List.set_cons_zero, List.set_cons_succ, i64_w, i32_w]
          rfl
        refine one_ (i := 2) (N := some 11) #[true, true, true, false, false, false] rfl rfl (by kernel_rfl) (by decide) (fun K hK => ?_)
        refine box_step ?hg (N := 11) ?hd (cs := #[.int .u64 0, .int .u64 0]) (t := 89) ?hr ?_; (case hd => rfl); (case hg => rfl); (case hr => first | (go_simp; done) | (go_simp; rfl))
        intro gb304 hg w153 hbox hb
        have BK304 := Aside0.mk (hbox)
        have GW304 := ge HB hg
        have GE304 := ge HB hg
        have NB301_304 := nl BK301 hg
        have NB304_301 := ng NB301_304
        have NB302_304 := nl BK302 hg
        have NB304_302 := ng NB302_304
        have NB303_304 := nl BK303 hg
        have NB304_303 := ng NB303_304
        replace BK301 := bb BK301 hb
        replace BK302 := bb BK302 hb
        replace BK303 := bb BK303 hb
        replace HB := bs HB hb
        clear hb hbox hg
        refine hK.out _ _ ⟨(blk_cell BK301.out 0).trans rfl, (blk_cell BK301.out 1).trans rfl⟩ (fun hHeld => ?_)
        clear hK K
        refine norm_ (a' := ?_) ?_ ?_
        rotate_left
        · show Act.put _ (some 11) _ = _
          simp only [Act.put, List.setIfInBounds_toArray, List.set_cons_zero, List.set_cons_succ, i64_w, i32_w]
          rfl
        refine pure_ (i := 3) (N := some 10) (v := ?_) (a' := ?_) #[true, true, true, true, false, false] rfl rfl (by kernel_rfl) (fun _ _ _ h => h) (Or.inl ⟨by rfl, ?_⟩) ?_ ?_
        rotate_left
        · intro w'
          go_simp
          with_reducible rfl
        rotate_left
        · simp only [Act.put, List.setIfInBounds_toArray, List.set_cons_zero, List.set_cons_succ, i64_w, i32_w]
          rfl
        refine one_ (i := 4) (N := none) #[true, true, true, true, true, false] rfl rfl (by kernel_rfl) (by decide) (fun K hK => ?_)
        have hs154 : w153.cell? ⟨gb304, 0, none⟩ = some (.int .u64 0) := (blk_cell BK304.out 0).trans rfl
        have hfs154 := blk_frozen BK304.out 0
        have hns154_0 := NB301_304.out
        have hns154_1 := NB302_304.out
        have hns154_2 := NB303_304.out
        have hms154_0 := NB304_301.out
        have hms154_1 := NB304_302.out
        have hms154_2 := NB304_303.out
        have hs155 : w153.cell? ⟨gb304, 1, none⟩ = some (.int .u64 0) := (blk_cell BK304.out 1).trans rfl
        have hfs155 := blk_frozen BK304.out 1
        have hns155_0 := NB301_304.out
        have hns155_1 := NB302_304.out
        have hns155_2 := NB303_304.out
        have hms155_0 := NB304_301.out
        have hms155_1 := NB304_302.out
        have hms155_2 := NB304_303.out
        refine skip_ (w1 := ?_) (by rfl) rfl ?_ ?_
        rotate_left
        · go_simp
          rfl
        refine hK.out _ _ ⟨((cell_far (p := ⟨gb304, _, none⟩) NB301_304.out _).trans (((cell_far (p := ⟨gb304, _, none⟩) NB301_304.out _).trans (hHeld.1)))), ((cell_far (p := ⟨gb304, _, none⟩) NB301_304.out _).trans (((cell_far (p := ⟨gb304, _, none⟩) NB301_304.out _).trans (hHeld.2))))⟩ (fun hHeld => ?_)
        clear hK K
        refine pure_ (i := 5) (N := some 12) (v := ?_) (a' := ?_) #[true, true, true, true, true, true] rfl rfl (by kernel_rfl) (fun _ _ _ h => h) (Or.inl ⟨by rfl, ?_⟩) ?_ ?_
        rotate_left
        · intro w'
          go_simp
          with_reducible rfl
        rotate_left
        · simp only [Act.put, List.setIfInBounds_toArray, List.set_cons_zero, List.set_cons_succ, i64_w, i32_w]
          rfl
        refine done_ (by kernel_rfl) ?_
        have hnb156 := NB301_302.out
        have hnc156 := NB302_301.out
        have hnb157 := NB301_303.out
        have hnc157 := NB303_301.out
        have hnb158 := NB301_304.out
        have hnc158 := NB304_301.out
        obtain ⟨hcz159_0, hcz159_1, hfz159_0, hfz159_1⟩ := cz2 BK301
        have hnb160 := NB302_303.out
        have hnc160 := NB303_302.out
        have hnb161 := NB302_304.out
        have hnc161 := NB304_302.out
        obtain ⟨hcz162_0, hcz162_1, hfz162_0, hfz162_1⟩ := cz2 BK302
        try go_wp2_with (first | ((with_reducible refine gate_callee (f := 71) rfl ?_); refine goesL_ (some 33) rfl rfl Try.func71 (by kernel_rfl) rfl #[.agg #[.int .u64 a1_0, .int .u64 a1_1], .agg #[.int .u64 a3_0, .int .u64 a3_1]] rfl zm ?_; (with_reducible refine (corebankref01_Less.calls a1_0 a1_1 a3_0 a3_1 false _ A85.out).mono ?_); rintro e w163 ⟨rfl, hb⟩; refine ⟨_, rfl, ?_⟩; replace BK301 := bb BK301 hb; replace BK302 := bb BK302 hb; replace BK303 := bb BK303 hb; replace BK304 := bpb BK304 hb #[.int .u64 a1_0, .int .u64 a1_1]; replace HB := bs HB hb; (try clear hb); (try clear hb2); (try clear hk); (try clear hi); obtain ⟨hcz164_0, hcz164_1, hfz164_0, hfz164_1⟩ := cz2 BK301; obtain ⟨hcz165_0, hcz165_1, hfz165_0, hfz165_1⟩ := cz2 BK302) | ((with_reducible refine gate_callee (f := 72) rfl ?_); refine goesL_ (some 19) rfl rfl Try.func72 (by kernel_rfl) rfl #[.agg #[.int .u64 a1_0, .int .u64 a1_1], .agg #[.int .u64 a3_0, .int .u64 a3_1]] rfl zm ?_; (with_reducible refine (corebankref01_minus.calls a1_0 a1_1 a3_0 a3_1 t319 t320 _ A146.out).mono ?_); rintro e w166 ⟨rfl, hb⟩; refine ⟨_, rfl, ?_⟩; replace BK301 := bb BK301 hb; replace BK302 := bb BK302 hb; replace BK303 := bb BK303 hb; replace BK304 := bb BK304 hb; replace HB := bs HB hb; (try clear hb); (try clear hb2); (try clear hk); (try clear hi); have hnb167 := NB304_303.out; have hnc167 := NB303_304.out; obtain ⟨hcz168_0, hcz168_1, hfz168_0, hfz168_1⟩ := cz2 BK304) | ((with_reducible refine gate_callee (f := 69) rfl ?_); refine goesL_ (some 41) rfl rfl Try.func69 (by kernel_rfl) rfl #[.bool a0, .agg #[.int .u64 t319, .int .u64 t320]] rfl zm ?_; (with_reducible refine (corebankref01_Join.calls a0 t319 t320 t321 t322 true _ A147.out).mono ?_); rintro e w169 ⟨rfl, hb⟩; refine ⟨_, rfl, ?_⟩; replace BK301 := bb BK301 hb; replace BK302 := bb BK302 hb; replace BK303 := bb BK303 hb; replace BK304 := bpb BK304 hb #[.int .u64 t319, .int .u64 t320]; replace HB := bs HB hb; (try clear hb); (try clear hb2); (try clear hk); (try clear hi)) | ((with_reducible refine gate_dst (N := 13) rfl ?_); refine box_event ?hg (N := 13) ?hd (cs := #[.int .i64 0, .int .u64 0]) (t := 35) ?hr ?_; (case hd => rfl); (case hg => rfl); (case hr => first | (go_simp; done) | (go_simp; rfl)); intro gb324 hg w170 hbox hb; have BK324 := Aside0.mk (hbox); have GW324 := ge HB hg; have GE324 := ge HB hg; have NB301_324 := nl BK301 hg; have NB324_301 := ng NB301_324; have NB302_324 := nl BK302 hg; have NB324_302 := ng NB302_324; have NB303_324 := nl BK303 hg; have NB324_303 := ng NB303_324; have NB304_324 := nl BK304 hg; have NB324_304 := ng NB304_324; replace BK301 := bb BK301 hb; replace BK302 := bb BK302 hb; replace BK303 := bb BK303 hb; replace BK304 := bb BK304 hb; replace HB := bs HB hb; clear hb hbox hg; have hnb171 := NB324_301.out; have hnc171 := NB301_324.out; have hnb172 := NB324_302.out; have hnc172 := NB302_324.out; have hnb173 := NB324_303.out; have hnc173 := NB303_324.out; have hnb174 := NB324_304.out; have hnc174 := NB304_324.out; obtain ⟨hcz175_0, hcz175_1, hfz175_0, hfz175_1⟩ := cz2 BK324; obtain ⟨hcz176_0, hcz176_1, hfz176_0, hfz176_1⟩ := cz2 BK303))
        refine bodyPost_ret (results_ct rfl _ _ gb303 35 #[.int .i64 t321, .int .u64 t322] (0, 0) _ rfl (bp BK303) Try.underlying35 rfl (by kernel_rfl)) rfl ?_
        exact ⟨by first | rfl | (simp [errW_none, errW_some] <;> rfl) | (simp [*, errW_none, errW_some] <;> rfl), hq HB⟩
      · replace c148 := Bool.eq_false_iff.mpr c148
        subst c148
        have H1 : (some (0, 0, 6)) = some (r1, r2, r3) := by rw [if_neg (show ¬ (false = true) by decide)] at H; exact H
        clear H
        have H := H1
        clear H1
        simp only [Option.some.injEq, Prod.mk.injEq] at H
        obtain ⟨rfl, rfl, rfl⟩ := H
        go_enter Try.func49, Try.ntmps49
        try go_wp2_with (first | ((with_reducible refine gate_dst (N := 5) rfl ?_); refine box_event ?hg (N := 5) ?hd (cs := #[.int .u64 a1_0, .int .u64 a1_1]) (t := 89) ?hr ?_; (case hd => rfl); (case hg => rfl); (case hr => first | (go_simp; done) | (go_simp; rfl)); intro gb301 hg w177 hbox hb; have BK301 := Aside0.mk (hbox); have GW301 := ge HB hg; have GE301 := ge HB hg; replace HB := bs HB hb; clear hb hbox hg) | ((with_reducible refine gate_dst (N := 7) rfl ?_); refine box_event ?hg (N := 7) ?hd (cs := #[.int .u64 a3_0, .int .u64 a3_1]) (t := 89) ?hr ?_; (case hd => rfl); (case hg => rfl); (case hr => first | (go_simp; done) | (go_simp; rfl)); intro gb302 hg w178 hbox hb; have BK302 := Aside0.mk (hbox); have GW302 := ge HB hg; have GE302 := ge HB hg; have NB301_302 := nl BK301 hg; have NB302_301 := ng NB301_302; replace BK301 := bb BK301 hb; replace HB := bs HB hb; clear hb hbox hg) | ((with_reducible refine gate_dst (N := 8) rfl ?_); refine box_event ?hg (N := 8) ?hd (cs := #[.int .i64 0, .int .u64 0]) (t := 35) ?hr ?_; (case hd => rfl); (case hg => rfl); (case hr => first | (go_simp; done) | (go_simp; rfl)); intro gb303 hg w179 hbox hb; have BK303 := Aside0.mk (hbox); have GW303 := ge HB hg; have GE303 := ge HB hg; have NB301_303 := nl BK301 hg; have NB303_301 := ng NB301_303; have NB302_303 := nl BK302 hg; have NB303_302 := ng NB302_303; replace BK301 := bb BK301 hb; replace BK302 := bb BK302 hb; replace HB := bs HB hb; clear hb hbox hg))
        replace BK301 := bd1 BK301
        replace BK302 := bd1 BK302
        replace BK303 := bd1 BK303
        replace HB := hb1 HB
        refine start_ (n := 6) (S := fun w' => w'.cell? ⟨gb301, 0, none⟩ = some (.int .u64 a1_0) ∧ w'.cell? ⟨gb301, 1, none⟩ = some (.int .u64 a1_1)) (ds := []) #[false, false, false, false, false, false] (by kernel_rfl) rfl rfl ⟨(blk_cell BK301.out 0).trans rfl, (blk_cell BK301.out 1).trans rfl⟩ (fun hHeld => ?_)
        generalize w179.drew = w180 at BK301 BK302 BK303 HB hHeld ⊢
        refine pure_ (i := 0) (N := some 15) (v := ?_) (a' := ?_) #[true, false, false, false, false, false] rfl rfl (by kernel_rfl) (fun _ _ _ h => h) (Or.inl ⟨by rfl, ?_⟩) ?_ ?_
        rotate_left
        · intro w'
          go_simp
          with_reducible rfl
        rotate_left
        · simp only [Act.put, List.setIfInBounds_toArray, List.set_cons_zero, List.set_cons_succ, i64_w, i32_w]
          rfl
        refine take_ (i := 1) (N := some 16) (v := ?_) (a' := ?_) #[true, true, false, false, false, false] rfl rfl (by kernel_rfl) (fun _ _ _ h => h) (Or.inl ⟨by rfl, ?_⟩) hHeld ?_ ?_
        rotate_left
        · rintro w' ⟨s0, s1⟩
          go_simp
          with_reducible rfl
        rotate_left
        · simp only [Act.put, List.setIfInBounds_toArray, List.set_cons_zero, List.set_cons_succ, i64_w, i32_w]
          rfl
        refine one_ (i := 2) (N := some 11) #[true, true, true, false, false, false] rfl rfl (by kernel_rfl) (by decide) (fun K hK => ?_)
        refine box_step ?hg (N := 11) ?hd (cs := #[.int .u64 0, .int .u64 0]) (t := 89) ?hr ?_; (case hd => rfl); (case hg => rfl); (case hr => first | (go_simp; done) | (go_simp; rfl))
        intro gb304 hg w181 hbox hb
        have BK304 := Aside0.mk (hbox)
        have GW304 := ge HB hg
        have GE304 := ge HB hg
        have NB301_304 := nl BK301 hg
        have NB304_301 := ng NB301_304
        have NB302_304 := nl BK302 hg
        have NB304_302 := ng NB302_304
        have NB303_304 := nl BK303 hg
        have NB304_303 := ng NB303_304
        replace BK301 := bb BK301 hb
        replace BK302 := bb BK302 hb
        replace BK303 := bb BK303 hb
        replace HB := bs HB hb
        clear hb hbox hg
        refine hK.out _ _ ⟨(blk_cell BK301.out 0).trans rfl, (blk_cell BK301.out 1).trans rfl⟩ (fun hHeld => ?_)
        clear hK K
        refine norm_ (a' := ?_) ?_ ?_
        rotate_left
        · show Act.put _ (some 11) _ = _
          simp only [Act.put, List.setIfInBounds_toArray, List.set_cons_zero, List.set_cons_succ, i64_w, i32_w]
          rfl
        refine pure_ (i := 3) (N := some 10) (v := ?_) (a' := ?_) #[true, true, true, true, false, false] rfl rfl (by kernel_rfl) (fun _ _ _ h => h) (Or.inl ⟨by rfl, ?_⟩) ?_ ?_
        rotate_left
        · intro w'
          go_simp
          with_reducible rfl
        rotate_left
        · simp only [Act.put, List.setIfInBounds_toArray, List.set_cons_zero, List.set_cons_succ, i64_w, i32_w]
          rfl
        refine one_ (i := 4) (N := none) #[true, true, true, true, true, false] rfl rfl (by kernel_rfl) (by decide) (fun K hK => ?_)
        have hs182 : w181.cell? ⟨gb304, 0, none⟩ = some (.int .u64 0) := (blk_cell BK304.out 0).trans rfl
        have hfs182 := blk_frozen BK304.out 0
        have hns182_0 := NB301_304.out
        have hns182_1 := NB302_304.out
        have hns182_2 := NB303_304.out
        have hms182_0 := NB304_301.out
        have hms182_1 := NB304_302.out
        have hms182_2 := NB304_303.out
        have hs183 : w181.cell? ⟨gb304, 1, none⟩ = some (.int .u64 0) := (blk_cell BK304.out 1).trans rfl
        have hfs183 := blk_frozen BK304.out 1
        have hns183_0 := NB301_304.out
        have hns183_1 := NB302_304.out
        have hns183_2 := NB303_304.out
        have hms183_0 := NB304_301.out
        have hms183_1 := NB304_302.out
        have hms183_2 := NB304_303.out
        refine skip_ (w1 := ?_) (by rfl) rfl ?_ ?_
        rotate_left
        · go_simp
          rfl
        refine hK.out _ _ ⟨((cell_far (p := ⟨gb304, _, none⟩) NB301_304.out _).trans (((cell_far (p := ⟨gb304, _, none⟩) NB301_304.out _).trans (hHeld.1)))), ((cell_far (p := ⟨gb304, _, none⟩) NB301_304.out _).trans (((cell_far (p := ⟨gb304, _, none⟩) NB301_304.out _).trans (hHeld.2))))⟩ (fun hHeld => ?_)
        clear hK K
        refine pure_ (i := 5) (N := some 12) (v := ?_) (a' := ?_) #[true, true, true, true, true, true] rfl rfl (by kernel_rfl) (fun _ _ _ h => h) (Or.inl ⟨by rfl, ?_⟩) ?_ ?_
        rotate_left
        · intro w'
          go_simp
          with_reducible rfl
        rotate_left
        · simp only [Act.put, List.setIfInBounds_toArray, List.set_cons_zero, List.set_cons_succ, i64_w, i32_w]
          rfl
        refine done_ (by kernel_rfl) ?_
        have hnb184 := NB301_302.out
        have hnc184 := NB302_301.out
        have hnb185 := NB301_303.out
        have hnc185 := NB303_301.out
        have hnb186 := NB301_304.out
        have hnc186 := NB304_301.out
        obtain ⟨hcz187_0, hcz187_1, hfz187_0, hfz187_1⟩ := cz2 BK301
        have hnb188 := NB302_303.out
        have hnc188 := NB303_302.out
        have hnb189 := NB302_304.out
        have hnc189 := NB304_302.out
        obtain ⟨hcz190_0, hcz190_1, hfz190_0, hfz190_1⟩ := cz2 BK302
        try go_wp2_with (first | ((with_reducible refine gate_callee (f := 71) rfl ?_); refine goesL_ (some 33) rfl rfl Try.func71 (by kernel_rfl) rfl #[.agg #[.int .u64 a1_0, .int .u64 a1_1], .agg #[.int .u64 a3_0, .int .u64 a3_1]] rfl zm ?_; (with_reducible refine (corebankref01_Less.calls a1_0 a1_1 a3_0 a3_1 false _ A85.out).mono ?_); rintro e w191 ⟨rfl, hb⟩; refine ⟨_, rfl, ?_⟩; replace BK301 := bb BK301 hb; replace BK302 := bb BK302 hb; replace BK303 := bb BK303 hb; replace BK304 := bpb BK304 hb #[.int .u64 a1_0, .int .u64 a1_1]; replace HB := bs HB hb; (try clear hb); (try clear hb2); (try clear hk); (try clear hi); obtain ⟨hcz192_0, hcz192_1, hfz192_0, hfz192_1⟩ := cz2 BK301; obtain ⟨hcz193_0, hcz193_1, hfz193_0, hfz193_1⟩ := cz2 BK302) | ((with_reducible refine gate_callee (f := 72) rfl ?_); refine goesL_ (some 19) rfl rfl Try.func72 (by kernel_rfl) rfl #[.agg #[.int .u64 a1_0, .int .u64 a1_1], .agg #[.int .u64 a3_0, .int .u64 a3_1]] rfl zm ?_; (with_reducible refine (corebankref01_minus.calls a1_0 a1_1 a3_0 a3_1 t319 t320 _ A146.out).mono ?_); rintro e w194 ⟨rfl, hb⟩; refine ⟨_, rfl, ?_⟩; replace BK301 := bb BK301 hb; replace BK302 := bb BK302 hb; replace BK303 := bb BK303 hb; replace BK304 := bb BK304 hb; replace HB := bs HB hb; (try clear hb); (try clear hb2); (try clear hk); (try clear hi); have hnb195 := NB304_303.out; have hnc195 := NB303_304.out; obtain ⟨hcz196_0, hcz196_1, hfz196_0, hfz196_1⟩ := cz2 BK304) | ((with_reducible refine gate_callee (f := 69) rfl ?_); refine goesL_ (some 41) rfl rfl Try.func69 (by kernel_rfl) rfl #[.bool a0, .agg #[.int .u64 t319, .int .u64 t320]] rfl zm ?_; (with_reducible refine (corebankref01_Join.calls a0 t319 t320 t321 t322 false _ A147.out).mono ?_); rintro e w197 ⟨rfl, hb⟩; refine ⟨_, rfl, ?_⟩; replace BK301 := bb BK301 hb; replace BK302 := bb BK302 hb; replace BK303 := bb BK303 hb; replace BK304 := bpb BK304 hb #[.int .u64 t319, .int .u64 t320]; replace HB := bs HB hb; (try clear hb); (try clear hb2); (try clear hk); (try clear hi)) | ((with_reducible refine gate_dst (N := 13) rfl ?_); refine box_event ?hg (N := 13) ?hd (cs := #[.int .i64 0, .int .u64 0]) (t := 35) ?hr ?_; (case hd => rfl); (case hg => rfl); (case hr => first | (go_simp; done) | (go_simp; rfl)); intro gb324 hg w198 hbox hb; have BK324 := Aside0.mk (hbox); have GW324 := ge HB hg; have GE324 := ge HB hg; have NB301_324 := nl BK301 hg; have NB324_301 := ng NB301_324; have NB302_324 := nl BK302 hg; have NB324_302 := ng NB302_324; have NB303_324 := nl BK303 hg; have NB324_303 := ng NB303_324; have NB304_324 := nl BK304 hg; have NB324_304 := ng NB304_324; replace BK301 := bb BK301 hb; replace BK302 := bb BK302 hb; replace BK303 := bb BK303 hb; replace BK304 := bb BK304 hb; replace HB := bs HB hb; clear hb hbox hg; have hnb199 := NB324_301.out; have hnc199 := NB301_324.out; have hnb200 := NB324_302.out; have hnc200 := NB302_324.out; have hnb201 := NB324_303.out; have hnc201 := NB303_324.out; have hnb202 := NB324_304.out; have hnc202 := NB304_324.out; obtain ⟨hcz203_0, hcz203_1, hfz203_0, hfz203_1⟩ := cz2 BK324; obtain ⟨hcz204_0, hcz204_1, hfz204_0, hfz204_1⟩ := cz2 BK303))
        refine bodyPost_ret (results_ct rfl _ _ gb303 35 #[.int .i64 0, .int .u64 0] (0, 0) _ rfl (bp BK303) Try.underlying35 rfl (by kernel_rfl)) rfl ?_
        exact ⟨by first | rfl | (simp [errW_none, errW_some] <;> rfl) | (simp [*, errW_none, errW_some] <;> rfl), hq HB⟩

end Go.Proofs.Ytlmabdiodopidaa.P
end
