-- laid by wip/tools/pr.sh (a patched printer; Lean checks it)
import Derived.Test.YtlmabdiodopidaaSq
import Derived.Test.YtlmabdiodopidaaPx0
import Derived.Test.YtlmabdiodopidaaPx8
import Derived.Test.YtlmabdiodopidaaPx9
import Derived.Test.YtlmabdiodopidaaLeaf
namespace Go.Proofs.Ytlmabdiodopidaa.P
open Go.Proofs.Ytlmabdiodopidaa.G
attribute [local go_sem high] un_not64 un_noti run_add64
open Go.RowKit Go.Proofs.YtlmabdiodopidaaW.PrintWords Go.Proofs.YtlmabdiodopidaaW.PrintLast Go.Proofs.YtlmabdiodopidaaW.PrintMore
attribute [local go_sem] max2_int min2_int max_two min_two max_three min_three max_four min_four   -- for this text's walks alone
set_option linter.unusedVariables false
set_option linter.unusedSimpArgs false

attribute [local go_sem high] eqA113
/-! ### wide_Scale: function 43 -/
def wide_Scale.f (k : Nat) (a0_0 : Int) (a0_1 : Int) (a1 : Int) : Option (Int × Int × Int) := (wide_absolute.f a0_0 a0_1).bind fun bt140 => ((wide_abs.f a1).bind fun t142 => ((wide_size_times.f bt140.1 bt140.2 t142 0).bind fun bt143 => (if bt143.2.2 = true then (if ((decide (a0_0 < 0)) != (decide (a1 < 0))) = true then ((wide_size_signed.f k bt143.1 bt143.2.1 (!(bt143.1 == 0) || (!(bt143.2.1 == 0)))).bind fun bt147 => (some (bt147.1, bt147.2.1, bt147.2.2))) else ((wide_size_signed.f k bt143.1 bt143.2.1 false).bind fun bt150 => (some (bt150.1, bt150.2.1, bt150.2.2)))) else (some (0, 0, 6)))))
theorem wide_Scale.mono : ∀ a0 a1 a2 k, LeO (wide_Scale.f k a0 a1 a2) (wide_Scale.f (k + 1) a0 a1 a2) := by
  intro a0 a1 a2 k
  unfold wide_Scale.f
  repeat' first
      | (with_reducible exact wide_size_signed.mono _ _ _ _)
      | (with_reducible exact LeO.refl _)
      | (with_reducible exact LeO.none _)
      | (with_reducible refine LeO.ite ?_ ?_)
      | (with_reducible refine LeO.bind ?_ (fun _ => ?_))
      | exact wide_size_signed.mono _ _ _ _
      | exact LeO.none _
      | refine LeO.ite ?_ ?_
      | refine LeO.bind ?_ (fun _ => ?_)
def wide_Scale.T4 : Bool × List (List Nat × List Nat) := (true, [([], []), ([], []), ([1], [1]), ([2], [2]), ([], []), ([4], [4]), ([3, 5], [3, 5]), ([6], [6]), ([7], [7]), ([7], [7]), ([8, 9, 7], [7, 8, 9]), ([7, 10], [7, 10]), ([0, 11, 7], [0, 11]), ([12], [12]), ([12], [12]), ([13, 12, 0, 1, 2, 3, 4, 5, 6, 7, 8, 9, 10, 11, 12, 13, 14], [13]), ([14, 15, 0, 1, 2, 3, 4, 5, 6, 7, 8, 9, 10, 11, 12, 13, 14, 15], [14])])
def wide_Scale.B4 : List Nat := [0, 0, 2, 6, 0, 16, 62, 126, 254, 254, 1022, 2046, 4095, 8191, 8191, 32767, 65535]
theorem wide_Scale.tab4 : rtab .any (opsOf Try.f43 4) = wide_Scale.T4 := by kernel_rfl
theorem wide_Scale.bits4 : waitsOk wide_Scale.T4.2 wide_Scale.B4 = true := by kernel_rfl
set_option maxHeartbeats 8000000 in
set_option maxRecDepth 100000 in
theorem wide_Scale.calls (k : Nat) (a0_0 : Int) (a0_1 : Int) (a1 : Int) (r1 : Int) (r2 : Int) (r3 : Int) (w : World) (h : wide_Scale.f k a0_0 a0_1 a1 = some (r1, r2, r3)) :
    Calls Try.prog 43 #[.agg #[.int .i64 a0_0, .int .u64 a0_1], .int .i64 a1] w fun e w' => e = .returned (.tuple #[.agg #[.int .i64 r1, .int .u64 r2], .int .i64 r3]) ∧ Below w.heap.size w w' := by
  have hu35 := Try.underlying35
  have hu113 := Try.underlying113
  have HB := Aside0.mk (Below.refl w.heap.size w)
  have H : ((wide_absolute.f a0_0 a0_1).bind fun bt140 => ((wide_abs.f a1).bind fun t142 => ((wide_size_times.f bt140.1 bt140.2 t142 0).bind fun bt143 => (if bt143.2.2 = true then (if ((decide (a0_0 < 0)) != (decide (a1 < 0))) = true then ((wide_size_signed.f k bt143.1 bt143.2.1 (!(bt143.1 == 0) || (!(bt143.2.1 == 0)))).bind fun bt147 => (some (bt147.1, bt147.2.1, bt147.2.2))) else ((wide_size_signed.f k bt143.1 bt143.2.1 false).bind fun bt150 => (some (bt150.1, bt150.2.1, bt150.2.2)))) else (some (0, 0, 6)))))) = some (r1, r2, r3) := h
  clear h
  replace H := Option.bind_eq_some_iff.mp H
  obtain ⟨⟨t140, t141⟩, A30, H⟩ := H
  replace H : ((wide_abs.f a1).bind fun t142 => ((wide_size_times.f t140 t141 t142 0).bind fun bt143 => (if bt143.2.2 = true then (if ((decide (a0_0 < 0)) != (decide (a1 < 0))) = true then ((wide_size_signed.f k bt143.1 bt143.2.1 (!(bt143.1 == 0) || (!(bt143.2.1 == 0)))).bind fun bt147 => (some (bt147.1, bt147.2.1, bt147.2.2))) else ((wide_size_signed.f k bt143.1 bt143.2.1 false).bind fun bt150 => (some (bt150.1, bt150.2.1, bt150.2.2)))) else (some (0, 0, 6))))) = some (r1, r2, r3) := H
  have A3 := Aside0.mk A30
  clear A30
  replace H := Option.bind_eq_some_iff.mp H
  obtain ⟨t142, A40, H⟩ := H
  replace H : ((wide_size_times.f t140 t141 t142 0).bind fun bt143 => (if bt143.2.2 = true then (if ((decide (a0_0 < 0)) != (decide (a1 < 0))) = true then ((wide_size_signed.f k bt143.1 bt143.2.1 (!(bt143.1 == 0) || (!(bt143.2.1 == 0)))).bind fun bt147 => (some (bt147.1, bt147.2.1, bt147.2.2))) else ((wide_size_signed.f k bt143.1 bt143.2.1 false).bind fun bt150 => (some (bt150.1, bt150.2.1, bt150.2.2)))) else (some (0, 0, 6)))) = some (r1, r2, r3) := H
  have A4 := Aside0.mk A40
  clear A40
  replace H := Option.bind_eq_some_iff.mp H
  obtain ⟨⟨t143, t144, t145⟩, A50, H⟩ := H
  replace H : (if t145 = true then (if ((decide (a0_0 < 0)) != (decide (a1 < 0))) = true then ((wide_size_signed.f k t143 t144 (!(t143 == 0) || (!(t144 == 0)))).bind fun bt147 => (some (bt147.1, bt147.2.1, bt147.2.2))) else ((wide_size_signed.f k t143 t144 false).bind fun bt150 => (some (bt150.1, bt150.2.1, bt150.2.2)))) else (some (0, 0, 6))) = some (r1, r2, r3) := H
  have A5 := Aside0.mk A50
  clear A50
  by_cases c6 : t145 = true
  · subst c6
    have H1 : (if ((decide (a0_0 < 0)) != (decide (a1 < 0))) = true then ((wide_size_signed.f k t143 t144 (!(t143 == 0) || (!(t144 == 0)))).bind fun bt147 => (some (bt147.1, bt147.2.1, bt147.2.2))) else ((wide_size_signed.f k t143 t144 false).bind fun bt150 => (some (bt150.1, bt150.2.1, bt150.2.2)))) = some (r1, r2, r3) := by rw [if_pos rfl] at H; exact H
    clear H
    have H := H1
    clear H1
    by_cases c7 : ((decide (a0_0 < 0)) != (decide (a1 < 0))) = true
    · rw [if_pos c7] at H
      have c7b0 : ((decide (a0_0 < 0)) != (decide (a1 < 0))) = true := c7
      (try (have c7b1 : decide ((decide (a0_0 < 0)) = (decide (a1 < 0))) = false := by simpa using c7))
      (try (have c7b2 : ((decide (a0_0 < 0)) == (decide (a1 < 0))) = false := by simpa using c7))
      (try (have c7b3 : ¬ ((decide (a0_0 < 0)) = (decide (a1 < 0))) := by simpa using c7))
      clear c7
      replace H := Option.bind_eq_some_iff.mp H
      obtain ⟨⟨t147, t148, t149⟩, A80, H⟩ := H
      replace H : (some (t147, t148, t149)) = some (r1, r2, r3) := H
      have A8 := Aside0.mk A80
      clear A80
      simp only [Option.some.injEq, Prod.mk.injEq] at H
      obtain ⟨rfl, rfl, rfl⟩ := H
      go_enter Try.func43, Try.ntmps43
      try go_wp2_with (first | ((with_reducible refine gate_dst (N := 2) rfl ?_); refine box_event ?hg (N := 2) ?hd (cs := #[.int .i64 a0_0, .int .u64 a0_1]) (t := 35) ?hr ?_; (case hd => rfl); (case hg => rfl); (case hr => first | (go_simp; done) | (go_simp; rfl)); intro gb138 hg w9 hbox hb; have BK138 := Aside0.mk (hbox); have GW138 := ge HB hg; have GE138 := ge HB hg; replace HB := bs HB hb; clear hb hbox hg) | ((with_reducible refine gate_dst (N := 4) rfl ?_); refine box_event ?hg (N := 4) ?hd (cs := #[.int .i64 0, .int .u64 0]) (t := 35) ?hr ?_; (case hd => rfl); (case hg => rfl); (case hr => first | (go_simp; done) | (go_simp; rfl)); intro gb139 hg w10 hbox hb; have BK139 := Aside0.mk (hbox); have GW139 := ge HB hg; have GE139 := ge HB hg; have NB138_139 := nl BK138 hg; have NB139_138 := ng NB138_139; replace BK138 := bb BK138 hb; replace HB := bs HB hb; clear hb hbox hg; have hnb11 := NB138_139.out; have hnc11 := NB139_138.out; obtain ⟨hcz12_0, hcz12_1, hfz12_0, hfz12_1⟩ := cz2 BK138) | ((with_reducible refine gate_callee (f := 60) rfl ?_); refine goesL_ (some 10) rfl rfl Try.func60 (by kernel_rfl) rfl #[.agg #[.int .i64 a0_0, .int .u64 a0_1]] rfl zm ?_; (with_reducible refine (wide_absolute.calls a0_0 a0_1 t140 t141 _ A3.out).mono ?_); rintro e w13 ⟨rfl, hb⟩; refine ⟨_, rfl, ?_⟩; replace BK138 := bb BK138 hb; replace BK139 := bb BK139 hb; replace HB := bs HB hb; (try clear hb); (try clear hb2); (try clear hk); (try clear hi)) | ((with_reducible refine gate_callee (f := 62) rfl ?_); refine goesL_ (some 12) rfl rfl Try.func62 (by kernel_rfl) rfl #[.int .i64 a1] rfl zm ?_; (with_reducible refine (wide_abs.calls a1 t142 _ A4.out).mono ?_); rintro e w' ⟨rfl, ⟨nd, rfl⟩⟩; refine ⟨_, rfl, ?_⟩; (try (rw [drewN_self w13]; generalize hq_ : World.drewN w13 _ = w13; replace BK138 : Aside0 (w13.heap[gb138]? = some (.cells #[.int .i64 a0_0, .int .u64 a0_1] 35 (0, 0))) := ⟨by rw [← hq_]; exact (bq BK138)⟩; replace BK139 : Aside0 (w13.heap[gb139]? = some (.cells #[.int .i64 0, .int .u64 0] 35 (0, 0))) := ⟨by rw [← hq_]; exact (bq BK139)⟩; replace HB : Aside0 (Below w.heap.size w w13) := ⟨by rw [← hq_]; exact (hq HB)⟩; clear hq_))) | ((with_reducible refine gate_callee (f := 61) rfl ?_); refine goesL_ (some 13) rfl rfl Try.func61 (by kernel_rfl) rfl #[.agg #[.int .u64 t140, .int .u64 t141], .int .u64 t142, .int .u64 0] rfl zm ?_; (with_reducible refine (wide_size_times.calls t140 t141 t142 0 t143 t144 true _ A5.out).mono ?_); rintro e w14 ⟨rfl, hb⟩; refine ⟨_, rfl, ?_⟩; replace BK138 := bb BK138 hb; replace BK139 := bb BK139 hb; replace HB := bs HB hb; (try clear hb); (try clear hb2); (try clear hk); (try clear hi)) | ((with_reducible refine gate_dst (N := 6) rfl ?_); refine box_event ?hg (N := 6) ?hd (cs := #[.int .u64 0, .int .u64 0]) (t := 113) ?hr ?_; (case hd => rfl); (case hg => rfl); (case hr => first | (go_simp; done) | (go_simp; rfl)); intro gb146 hg w15 hbox hb; have BK146 := Aside0.mk (hbox); have GW146 := ge HB hg; have GE146 := ge HB hg; have NB138_146 := nl BK138 hg; have NB146_138 := ng NB138_146; have NB139_146 := nl BK139 hg; have NB146_139 := ng NB139_146; replace BK138 := bb BK138 hb; replace BK139 := bb BK139 hb; replace HB := bs HB hb; clear hb hbox hg; have hnb16 := NB146_138.out; have hnc16 := NB138_146.out; have hnb17 := NB146_139.out; have hnc17 := NB139_146.out; obtain ⟨hcz18_0, hcz18_1, hfz18_0, hfz18_1⟩ := cz2 BK146))
      have n0_ : Aside0 (((w15.setCell ⟨gb146, 0, none⟩ (.int .u64 t143)).setCell ⟨gb146, 1, none⟩ (.int .u64 t144)).heap[gb138]? = some (.cells #[.int .i64 a0_0, .int .u64 a0_1] 35 (0, 0))) := ⟨bq BK138⟩
      have n1_ : Aside0 (((w15.setCell ⟨gb146, 0, none⟩ (.int .u64 t143)).setCell ⟨gb146, 1, none⟩ (.int .u64 t144)).heap[gb139]? = some (.cells #[.int .i64 0, .int .u64 0] 35 (0, 0))) := ⟨bq BK139⟩
      have n2_ : Aside0 (((w15.setCell ⟨gb146, 0, none⟩ (.int .u64 t143)).setCell ⟨gb146, 1, none⟩ (.int .u64 t144)).heap[gb146]? = some (.cells #[.int .u64 t143, .int .u64 t144] 113 (0, 0))) := ⟨bp BK146⟩
      have n3_ : Aside0 (Below w.heap.size w ((w15.setCell ⟨gb146, 0, none⟩ (.int .u64 t143)).setCell ⟨gb146, 1, none⟩ (.int .u64 t144))) := ⟨hq HB⟩
      (try clear BK138)
      (try clear BK139)
      (try clear BK146)
      (try clear HB)
      generalize ((w15.setCell ⟨gb146, 0, none⟩ (.int .u64 t143)).setCell ⟨gb146, 1, none⟩ (.int .u64 t144)) = w19 at n0_ n1_ n2_ n3_ ⊢
      have BK138 := n0_
      have BK139 := n1_
      have BK146 := n2_
      have HB := n3_
      clear n0_ n1_ n2_ n3_
      replace BK138 := bd1 BK138
      replace BK139 := bd1 BK139
      replace BK146 := bd1 BK146
      replace HB := hb1 HB
      refine start_ (n := 17) (S := fun w' => w'.cell? ⟨gb146, 0, none⟩ = some (.int .u64 t143) ∧ w'.cell? ⟨gb146, 1, none⟩ = some (.int .u64 t144) ∧ w'.cell? ⟨gb138, 0, none⟩ = some (.int .i64 a0_0) ∧ w'.cell? ⟨gb138, 1, none⟩ = some (.int .u64 a0_1)) (ds := []) #[false, false, false, false, false, false, false, false, false, false, false, false, false, false, false, false, false] (by kernel_rfl) rfl rfl ⟨(blk_cell BK146.out 0).trans rfl, (blk_cell BK146.out 1).trans rfl, (blk_cell BK138.out 0).trans rfl, (blk_cell BK138.out 1).trans rfl⟩ (fun hHeld => ?_); refine with_tabW wide_Scale.tab4 wide_Scale.bits4 (fun HT_ HW_ => ?_)
      generalize w19.drew = w20 at BK138 BK139 BK146 HB hHeld ⊢
      refine pz (i := 1) (N := some 20) #[false, true, false, false, false, false, false, false, false, false, false, false, false, false, false, false, false] rfl rfl (any_of HT_.out (by kernel_rfl)) (fun _ _ _ h => h) ?_
      refine pz (i := 4) (N := some 23) #[false, true, false, false, true, false, false, false, false, false, false, false, false, false, false, false, false] rfl rfl (any_of HT_.out (by kernel_rfl)) (fun _ _ _ h => h) ?_
      refine pz (i := 5) (N := some 24) #[false, true, false, false, true, true, false, false, false, false, false, false, false, false, false, false, false] rfl rfl (any_of HT_.out (by kernel_rfl)) (fun _ _ _ h => h) ?_
      refine tz4 (i := 0) (N := some 19) #[true, true, false, false, true, true, false, false, false, false, false, false, false, false, false, false, false] rfl rfl (take_ofW HT_.out HW_.out (by kernel_rfl)) (fun _ _ _ h => h) hHeld ?_
      refine tz4 (i := 2) (N := some 21) #[true, true, true, false, true, true, false, false, false, false, false, false, false, false, false, false, false] rfl rfl (take_ofW HT_.out HW_.out (by kernel_rfl)) (fun _ _ _ h => h) hHeld ?_
      refine pz (i := 3) (N := some 22) #[true, true, true, true, true, true, false, false, false, false, false, false, false, false, false, false, false] rfl rfl (any_of HT_.out (by kernel_rfl)) (fun _ _ _ h => h) ?_
      refine pz (i := 6) (N := some 25) #[true, true, true, true, true, true, true, false, false, false, false, false, false, false, false, false, false] rfl rfl (any_of HT_.out (by kernel_rfl)) (fun _ _ _ h => h) ?_
      refine pz (i := 7) (N := some 26) #[true, true, true, true, true, true, true, true, false, false, false, false, false, false, false, false, false] rfl rfl (any_of HT_.out (by kernel_rfl)) (fun _ _ _ h => h) ?_
      refine pz (i := 9) (N := some 28) #[true, true, true, true, true, true, true, true, false, true, false, false, false, false, false, false, false] rfl rfl (any_of HT_.out (by kernel_rfl)) (fun _ _ _ h => h) ?_
      refine tz4 (i := 8) (N := some 27) #[true, true, true, true, true, true, true, true, true, true, false, false, false, false, false, false, false] rfl rfl (take_ofW HT_.out HW_.out (by kernel_rfl)) (fun _ _ _ h => h) hHeld ?_
      refine pz (i := 10) (N := some 29) #[true, true, true, true, true, true, true, true, true, true, true, false, false, false, false, false, false] rfl rfl (any_of HT_.out (by kernel_rfl)) (fun _ _ _ h => h) ?_
      refine pz (i := 11) (N := some 30) #[true, true, true, true, true, true, true, true, true, true, true, true, false, false, false, false, false] rfl rfl (any_of HT_.out (by kernel_rfl)) (fun _ _ _ h => h) ?_
      refine one_ (i := 12) (N := some 31) #[true, true, true, true, true, true, true, true, true, true, true, true, true, false, false, false, false] rfl rfl (one_of HT_.out (by kernel_rfl)) (by decide) (fun K hK => ?_)
      refine goes_ Try.func63 (by kernel_rfl) rfl #[.agg #[.int .u64 t143, .int .u64 t144], .bool (!(t143 == 0) || (!(t144 == 0)))] (by rfl) rfl rfl zm ?_
      with_reducible refine (wide_size_signed.calls k t143 t144 (!(t143 == 0) || (!(t144 == 0))) t147 t148 t149 _ A8.out).mono ?_
      rintro e w21 ⟨rfl, hb⟩
      refine ⟨_, rfl, ?_⟩
      replace BK138 := bb BK138 hb
      replace BK139 := bb BK139 hb
      replace BK146 := bb BK146 hb
      replace HB := bs HB hb
      (try clear hb)
      (try clear hb2)
      (try clear hk)
      (try clear hi)
      refine hK.out _ _ ⟨(blk_cell BK146.out 0).trans rfl, (blk_cell BK146.out 1).trans rfl, (blk_cell BK138.out 0).trans rfl, (blk_cell BK138.out 1).trans rfl⟩ (fun hHeld => ?_)
      clear hK K
      refine norm_ (a' := ?_) ?_ ?_
      rotate_left
      · show Act.put _ (some 31) _ = _
        simp only [Act.put, List.setIfInBounds_toArray, List.set_cons_zero, List.set_cons_succ, i64_w, i32_w]
        rfl
      refine pz (i := 13) (N := some 32) #[true, true, true, true, true, true, true, true, true, true, true, true, true, true, false, false, false] rfl rfl (any_of HT_.out (by kernel_rfl)) (fun _ _ _ h => h) ?_
      refine pz (i := 14) (N := some 33) #[true, true, true, true, true, true, true, true, true, true, true, true, true, true, true, false, false] rfl rfl (any_of HT_.out (by kernel_rfl)) (fun _ _ _ h => h) ?_
      refine one_ (i := 15) (N := none) #[true, true, true, true, true, true, true, true, true, true, true, true, true, true, true, true, false] rfl rfl (one_of HT_.out (by kernel_rfl)) (by decide) (fun K hK => ?_)
      have hs22 : w21.cell? ⟨gb139, 0, none⟩ = some (.int .i64 0) := (blk_cell BK139.out 0).trans rfl
      have hfs22 := blk_frozen BK139.out 0
      have hns22_0 := NB138_139.out
      have hns22_2 := NB146_139.out
      have hms22_0 := NB139_138.out
      have hms22_2 := NB139_146.out
      have hs23 : w21.cell? ⟨gb139, 1, none⟩ = some (.int .u64 0) := (blk_cell BK139.out 1).trans rfl
      have hfs23 := blk_frozen BK139.out 1
      have hns23_0 := NB138_139.out
      have hns23_2 := NB146_139.out
      have hms23_0 := NB139_138.out
      have hms23_2 := NB139_146.out
      refine skip_ (w1 := ?_) (by rfl) rfl ?_ ?_
      rotate_left
      · go_simp
        rfl
      refine hK.out _ _ ⟨((cell_far (p := ⟨gb139, _, none⟩) NB146_139.out _).trans (((cell_far (p := ⟨gb139, _, none⟩) NB146_139.out _).trans (hHeld.1)))), ((cell_far (p := ⟨gb139, _, none⟩) NB146_139.out _).trans (((cell_far (p := ⟨gb139, _, none⟩) NB146_139.out _).trans (hHeld.2.1)))), ((cell_far (p := ⟨gb139, _, none⟩) NB138_139.out _).trans (((cell_far (p := ⟨gb139, _, none⟩) NB138_139.out _).trans (hHeld.2.2.1)))), ((cell_far (p := ⟨gb139, _, none⟩) NB138_139.out _).trans (((cell_far (p := ⟨gb139, _, none⟩) NB138_139.out _).trans (hHeld.2.2.2))))⟩ (fun hHeld => ?_)
      clear hK K
      refine pz (i := 16) (N := some 5) #[true, true, true, true, true, true, true, true, true, true, true, true, true, true, true, true, true] rfl rfl (any_of HT_.out (by kernel_rfl)) (fun _ _ _ h => h) ?_
      refine done_ (done_of HT_.out (by kernel_rfl)) ?_
      try go_wp2
      refine bodyPost_ret (results_ct rfl _ _ gb139 35 #[.int .i64 t147, .int .u64 t148] (0, 0) _ rfl (bp BK139) Try.underlying35 rfl (by kernel_rfl)) rfl ?_
      exact ⟨by first | rfl | (simp [errW_none, errW_some] <;> rfl) | (simp [*, errW_none, errW_some] <;> rfl), hq HB⟩
    · rw [if_neg c7] at H
      have c7b0 : ((decide (a0_0 < 0)) != (decide (a1 < 0))) = false := by simpa using c7
      (try (have c7b1 : decide ((decide (a0_0 < 0)) = (decide (a1 < 0))) = true := by simpa using c7))
      (try (have c7b2 : ((decide (a0_0 < 0)) == (decide (a1 < 0))) = true := by simpa using c7))
      clear c7
      replace H := Option.bind_eq_some_iff.mp H
      obtain ⟨⟨t150, t151, t152⟩, A240, H⟩ := H
      replace H : (some (t150, t151, t152)) = some (r1, r2, r3) := H
      have A24 := Aside0.mk A240
      clear A240
      simp only [Option.some.injEq, Prod.mk.injEq] at H
      obtain ⟨rfl, rfl, rfl⟩ := H
      go_enter Try.func43, Try.ntmps43
      try go_wp2_with (first | ((with_reducible refine gate_dst (N := 2) rfl ?_); refine box_event ?hg (N := 2) ?hd (cs := #[.int .i64 a0_0, .int .u64 a0_1]) (t := 35) ?hr ?_; (case hd => rfl); (case hg => rfl); (case hr => first | (go_simp; done) | (go_simp; rfl)); intro gb138 hg w25 hbox hb; have BK138 := Aside0.mk (hbox); have GW138 := ge HB hg; have GE138 := ge HB hg; replace HB := bs HB hb; clear hb hbox hg) | ((with_reducible refine gate_dst (N := 4) rfl ?_); refine box_event ?hg (N := 4) ?hd (cs := #[.int .i64 0, .int .u64 0]) (t := 35) ?hr ?_; (case hd => rfl); (case hg => rfl); (case hr => first | (go_simp; done) | (go_simp; rfl)); intro gb139 hg w26 hbox hb; have BK139 := Aside0.mk (hbox); have GW139 := ge HB hg; have GE139 := ge HB hg; have NB138_139 := nl BK138 hg; have NB139_138 := ng NB138_139; replace BK138 := bb BK138 hb; replace HB := bs HB hb; clear hb hbox hg; have hnb27 := NB138_139.out; have hnc27 := NB139_138.out; obtain ⟨hcz28_0, hcz28_1, hfz28_0, hfz28_1⟩ := cz2 BK138) | ((with_reducible refine gate_callee (f := 60) rfl ?_); refine goesL_ (some 10) rfl rfl Try.func60 (by kernel_rfl) rfl #[.agg #[.int .i64 a0_0, .int .u64 a0_1]] rfl zm ?_; (with_reducible refine (wide_absolute.calls a0_0 a0_1 t140 t141 _ A3.out).mono ?_); rintro e w29 ⟨rfl, hb⟩; refine ⟨_, rfl, ?_⟩; replace BK138 := bb BK138 hb; replace BK139 := bb BK139 hb; replace HB := bs HB hb; (try clear hb); (try clear hb2); (try clear hk); (try clear hi)) | ((with_reducible refine gate_callee (f := 62) rfl ?_); refine goesL_ (some 12) rfl rfl Try.func62 (by kernel_rfl) rfl #[.int .i64 a1] rfl zm ?_; (with_reducible refine (wide_abs.calls a1 t142 _ A4.out).mono ?_); rintro e w' ⟨rfl, ⟨nd, rfl⟩⟩; refine ⟨_, rfl, ?_⟩; (try (rw [drewN_self w29]; generalize hq_ : World.drewN w29 _ = w29; replace BK138 : Aside0 (w29.heap[gb138]? = some (.cells #[.int .i64 a0_0, .int .u64 a0_1] 35 (0, 0))) := ⟨by rw [← hq_]; exact (bq BK138)⟩; replace BK139 : Aside0 (w29.heap[gb139]? = some (.cells #[.int .i64 0, .int .u64 0] 35 (0, 0))) := ⟨by rw [← hq_]; exact (bq BK139)⟩; replace HB : Aside0 (Below w.heap.size w w29) := ⟨by rw [← hq_]; exact (hq HB)⟩; clear hq_))) | ((with_reducible refine gate_callee (f := 61) rfl ?_); refine goesL_ (some 13) rfl rfl Try.func61 (by kernel_rfl) rfl #[.agg #[.int .u64 t140, .int .u64 t141], .int .u64 t142, .int .u64 0] rfl zm ?_; (with_reducible refine (wide_size_times.calls t140 t141 t142 0 t143 t144 true _ A5.out).mono ?_); rintro e w30 ⟨rfl, hb⟩; refine ⟨_, rfl, ?_⟩; replace BK138 := bb BK138 hb; replace BK139 := bb BK139 hb; replace HB := bs HB hb; (try clear hb); (try clear hb2); (try clear hk); (try clear hi)) | ((with_reducible refine gate_dst (N := 6) rfl ?_); refine box_event ?hg (N := 6) ?hd (cs := #[.int .u64 0, .int .u64 0]) (t := 113) ?hr ?_; (case hd => rfl); (case hg => rfl); (case hr => first | (go_simp; done) | (go_simp; rfl)); intro gb146 hg w31 hbox hb; have BK146 := Aside0.mk (hbox); have GW146 := ge HB hg; have GE146 := ge HB hg; have NB138_146 := nl BK138 hg; have NB146_138 := ng NB138_146; have NB139_146 := nl BK139 hg; have NB146_139 := ng NB139_146; replace BK138 := bb BK138 hb; replace BK139 := bb BK139 hb; replace HB := bs HB hb; clear hb hbox hg; have hnb32 := NB146_138.out; have hnc32 := NB138_146.out; have hnb33 := NB146_139.out; have hnc33 := NB139_146.out; obtain ⟨hcz34_0, hcz34_1, hfz34_0, hfz34_1⟩ := cz2 BK146))
      have n0_ : Aside0 (((w31.setCell ⟨gb146, 0, none⟩ (.int .u64 t143)).setCell ⟨gb146, 1, none⟩ (.int .u64 t144)).heap[gb138]? = some (.cells #[.int .i64 a0_0, .int .u64 a0_1] 35 (0, 0))) := ⟨bq BK138⟩
      have n1_ : Aside0 (((w31.setCell ⟨gb146, 0, none⟩ (.int .u64 t143)).setCell ⟨gb146, 1, none⟩ (.int .u64 t144)).heap[gb139]? = some (.cells #[.int .i64 0, .int .u64 0] 35 (0, 0))) := ⟨bq BK139⟩
      have n2_ : Aside0 (((w31.setCell ⟨gb146, 0, none⟩ (.int .u64 t143)).setCell ⟨gb146, 1, none⟩ (.int .u64 t144)).heap[gb146]? = some (.cells #[.int .u64 t143, .int .u64 t144] 113 (0, 0))) := ⟨bp BK146⟩
      have n3_ : Aside0 (Below w.heap.size w ((w31.setCell ⟨gb146, 0, none⟩ (.int .u64 t143)).setCell ⟨gb146, 1, none⟩ (.int .u64 t144))) := ⟨hq HB⟩
      (try clear BK138)
      (try clear BK139)
      (try clear BK146)
      (try clear HB)
      generalize ((w31.setCell ⟨gb146, 0, none⟩ (.int .u64 t143)).setCell ⟨gb146, 1, none⟩ (.int .u64 t144)) = w35 at n0_ n1_ n2_ n3_ ⊢
      have BK138 := n0_
      have BK139 := n1_
      have BK146 := n2_
      have HB := n3_
      clear n0_ n1_ n2_ n3_
      replace BK138 := bd1 BK138
      replace BK139 := bd1 BK139
      replace BK146 := bd1 BK146
      replace HB := hb1 HB
      refine start_ (n := 17) (S := fun w' => w'.cell? ⟨gb146, 0, none⟩ = some (.int .u64 t143) ∧ w'.cell? ⟨gb146, 1, none⟩ = some (.int .u64 t144) ∧ w'.cell? ⟨gb138, 0, none⟩ = some (.int .i64 a0_0) ∧ w'.cell? ⟨gb138, 1, none⟩ = some (.int .u64 a0_1)) (ds := []) #[false, false, false, false, false, false, false, false, false, false, false, false, false, false, false, false, false] (by kernel_rfl) rfl rfl ⟨(blk_cell BK146.out 0).trans rfl, (blk_cell BK146.out 1).trans rfl, (blk_cell BK138.out 0).trans rfl, (blk_cell BK138.out 1).trans rfl⟩ (fun hHeld => ?_); refine with_tabW wide_Scale.tab4 wide_Scale.bits4 (fun HT_ HW_ => ?_)
      generalize w35.drew = w36 at BK138 BK139 BK146 HB hHeld ⊢
      refine pz (i := 1) (N := some 20) #[false, true, false, false, false, false, false, false, false, false, false, false, false, false, false, false, false] rfl rfl (any_of HT_.out (by kernel_rfl)) (fun _ _ _ h => h) ?_
      refine pz (i := 4) (N := some 23) #[false, true, false, false, true, false, false, false, false, false, false, false, false, false, false, false, false] rfl rfl (any_of HT_.out (by kernel_rfl)) (fun _ _ _ h => h) ?_
      refine pz (i := 5) (N := some 24) #[false, true, false, false, true, true, false, false, false, false, false, false, false, false, false, false, false] rfl rfl (any_of HT_.out (by kernel_rfl)) (fun _ _ _ h => h) ?_
      refine tz4 (i := 0) (N := some 19) #[true, true, false, false, true, true, false, false, false, false, false, false, false, false, false, false, false] rfl rfl (take_ofW HT_.out HW_.out (by kernel_rfl)) (fun _ _ _ h => h) hHeld ?_
      refine tz4 (i := 2) (N := some 21) #[true, true, true, false, true, true, false, false, false, false, false, false, false, false, false, false, false] rfl rfl (take_ofW HT_.out HW_.out (by kernel_rfl)) (fun _ _ _ h => h) hHeld ?_
      refine pz (i := 3) (N := some 22) #[true, true, true, true, true, true, false, false, false, false, false, false, false, false, false, false, false] rfl rfl (any_of HT_.out (by kernel_rfl)) (fun _ _ _ h => h) ?_
      refine pz (i := 6) (N := some 25) #[true, true, true, true, true, true, true, false, false, false, false, false, false, false, false, false, false] rfl rfl (any_of HT_.out (by kernel_rfl)) (fun _ _ _ h => h) ?_
      refine pz (i := 7) (N := some 26) #[true, true, true, true, true, true, true, true, false, false, false, false, false, false, false, false, false] rfl rfl (any_of HT_.out (by kernel_rfl)) (fun _ _ _ h => h) ?_
      refine pure_ (i := 8) (N := some 27) (v := undef) (a' := ?_) #[true, true, true, true, true, true, true, true, true, false, false, false, false, false, false, false, false] rfl rfl (any_of HT_.out (by kernel_rfl)) (fun _ _ _ h => h) (Or.inr ⟨by rfl, rfl⟩) ?_ ?_
      rotate_left
      · simp only [Act.put, List.setIfInBounds_toArray, List.set_cons_zero, List.set_cons_succ, i64_w, i32_w]
        rfl
      refine pure_ (i := 9) (N := some 28) (v := undef) (a' := ?_) #[true, true, true, true, true, true, true, true, true, true, false, false, false, false, false, false, false] rfl rfl (any_of HT_.out (by kernel_rfl)) (fun _ _ _ h => h) (Or.inr ⟨by rfl, rfl⟩) ?_ ?_
      rotate_left
      · simp only [Act.put, List.setIfInBounds_toArray, List.set_cons_zero, List.set_cons_succ, i64_w, i32_w]
        rfl
      refine pure_ (i := 10) (N := some 29) (v := undef) (a' := ?_) #[true, true, true, true, true, true, true, true, true, true, true, false, false, false, false, false, false] rfl rfl (any_of HT_.out (by kernel_rfl)) (fun _ _ _ h => h) (Or.inr ⟨by rfl, rfl⟩) ?_ ?_
      rotate_left
      · simp only [Act.put, List.setIfInBounds_toArray, List.set_cons_zero, List.set_cons_succ, i64_w, i32_w]
        rfl
      refine pz (i := 11) (N := some 30) #[true, true, true, true, true, true, true, true, true, true, true, true, false, false, false, false, false] rfl rfl (any_of HT_.out (by kernel_rfl)) (fun _ _ _ h => h) ?_
      refine one_ (i := 12) (N := some 31) #[true, true, true, true, true, true, true, true, true, true, true, true, true, false, false, false, false] rfl rfl (one_of HT_.out (by kernel_rfl)) (by decide) (fun K hK => ?_)
      refine goes_ Try.func63 (by kernel_rfl) rfl #[.agg #[.int .u64 t143, .int .u64 t144], .bool false] (by rfl) rfl rfl zm ?_
      with_reducible refine (wide_size_signed.calls k t143 t144 false t150 t151 t152 _ A24.out).mono ?_
      rintro e w37 ⟨rfl, hb⟩
      refine ⟨_, rfl, ?_⟩
      replace BK138 := bb BK138 hb
      replace BK139 := bb BK139 hb
      replace BK146 := bb BK146 hb
      replace HB := bs HB hb
      (try clear hb)
      (try clear hb2)
      (try clear hk)
      (try clear hi)
      refine hK.out _ _ ⟨(blk_cell BK146.out 0).trans rfl, (blk_cell BK146.out 1).trans rfl, (blk_cell BK138.out 0).trans rfl, (blk_cell BK138.out 1).trans rfl⟩ (fun hHeld => ?_)
      clear hK K
      refine norm_ (a' := ?_) ?_ ?_
      rotate_left
      · show Act.put _ (some 31) _ = _
        simp only [Act.put, List.setIfInBounds_toArray, List.set_cons_zero, List.set_cons_succ, i64_w, i32_w]
        rfl
      refine pz (i := 13) (N := some 32) #[true, true, true, true, true, true, true, true, true, true, true, true, true, true, false, false, false] rfl rfl (any_of HT_.out (by kernel_rfl)) (fun _ _ _ h => h) ?_
      refine pz (i := 14) (N := some 33) #[true, true, true, true, true, true, true, true, true, true, true, true, true, true, true, false, false] rfl rfl (any_of HT_.out (by kernel_rfl)) (fun _ _ _ h => h) ?_
      refine one_ (i := 15) (N := none) #[true, true, true, true, true, true, true, true, true, true, true, true, true, true, true, true, false] rfl rfl (one_of HT_.out (by kernel_rfl)) (by decide) (fun K hK => ?_)
      have hs38 : w37.cell? ⟨gb139, 0, none⟩ = some (.int .i64 0) := (blk_cell BK139.out 0).trans rfl
      have hfs38 := blk_frozen BK139.out 0
      have hns38_0 := NB138_139.out
      have hns38_2 := NB146_139.out
      have hms38_0 := NB139_138.out
      have hms38_2 := NB139_146.out
      have hs39 : w37.cell? ⟨gb139, 1, none⟩ = some (.int .u64 0) := (blk_cell BK139.out 1).trans rfl
      have hfs39 := blk_frozen BK139.out 1
      have hns39_0 := NB138_139.out
      have hns39_2 := NB146_139.out
      have hms39_0 := NB139_138.out
      have hms39_2 := NB139_146.out
      refine skip_ (w1 := ?_) (by rfl) rfl ?_ ?_
      rotate_left
      · go_simp
        rfl
      refine hK.out _ _ ⟨((cell_far (p := ⟨gb139, _, none⟩) NB146_139.out _).trans (((cell_far (p := ⟨gb139, _, none⟩) NB146_139.out _).trans (hHeld.1)))), ((cell_far (p := ⟨gb139, _, none⟩) NB146_139.out _).trans (((cell_far (p := ⟨gb139, _, none⟩) NB146_139.out _).trans (hHeld.2.1)))), ((cell_far (p := ⟨gb139, _, none⟩) NB138_139.out _).trans (((cell_far (p := ⟨gb139, _, none⟩) NB138_139.out _).trans (hHeld.2.2.1)))), ((cell_far (p := ⟨gb139, _, none⟩) NB138_139.out _).trans (((cell_far (p := ⟨gb139, _, none⟩) NB138_139.out _).trans (hHeld.2.2.2))))⟩ (fun hHeld => ?_)
      clear hK K
      refine pz (i := 16) (N := some 5) #[true, true, true, true, true, true, true, true, true, true, true, true, true, true, true, true, true] rfl rfl (any_of HT_.out (by kernel_rfl)) (fun _ _ _ h => h) ?_
      refine done_ (done_of HT_.out (by kernel_rfl)) ?_
      try go_wp2
      refine bodyPost_ret (results_ct rfl _ _ gb139 35 #[.int .i64 t150, .int .u64 t151] (0, 0) _ rfl (bp BK139) Try.underlying35 rfl (by kernel_rfl)) rfl ?_
      exact ⟨by first | rfl | (simp [errW_none, errW_some] <;> rfl) | (simp [*, errW_none, errW_some] <;> rfl), hq HB⟩
  · replace c6 := Bool.eq_false_iff.mpr c6
    subst c6
    have H1 : (some (0, 0, 6)) = some (r1, r2, r3) := by rw [if_neg (show ¬ (false = true) by decide)] at H; exact H
    clear H
    have H := H1
    clear H1
    simp only [Option.some.injEq, Prod.mk.injEq] at H
    obtain ⟨rfl, rfl, rfl⟩ := H
    go_enter Try.func43, Try.ntmps43
    go_wp2_with (first | ((with_reducible refine gate_dst (N := 2) rfl ?_); refine box_event ?hg (N := 2) ?hd (cs := #[.int .i64 a0_0, .int .u64 a0_1]) (t := 35) ?hr ?_; (case hd => rfl); (case hg => rfl); (case hr => first | (go_simp; done) | (go_simp; rfl)); intro gb138 hg w40 hbox hb; have BK138 := Aside0.mk (hbox); have GW138 := ge HB hg; have GE138 := ge HB hg; replace HB := bs HB hb; clear hb hbox hg) | ((with_reducible refine gate_dst (N := 4) rfl ?_); refine box_event ?hg (N := 4) ?hd (cs := #[.int .i64 0, .int .u64 0]) (t := 35) ?hr ?_; (case hd => rfl); (case hg => rfl); (case hr => first | (go_simp; done) | (go_simp; rfl)); intro gb139 hg w41 hbox hb; have BK139 := Aside0.mk (hbox); have GW139 := ge HB hg; have GE139 := ge HB hg; have NB138_139 := nl BK138 hg; have NB139_138 := ng NB138_139; replace BK138 := bb BK138 hb; replace HB := bs HB hb; clear hb hbox hg; have hnb42 := NB138_139.out; have hnc42 := NB139_138.out; obtain ⟨hcz43_0, hcz43_1, hfz43_0, hfz43_1⟩ := cz2 BK138) | ((with_reducible refine gate_callee (f := 60) rfl ?_); refine goesL_ (some 10) rfl rfl Try.func60 (by kernel_rfl) rfl #[.agg #[.int .i64 a0_0, .int .u64 a0_1]] rfl zm ?_; (with_reducible refine (wide_absolute.calls a0_0 a0_1 t140 t141 _ A3.out).mono ?_); rintro e w44 ⟨rfl, hb⟩; refine ⟨_, rfl, ?_⟩; replace BK138 := bb BK138 hb; replace BK139 := bb BK139 hb; replace HB := bs HB hb; (try clear hb); (try clear hb2); (try clear hk); (try clear hi)) | ((with_reducible refine gate_callee (f := 62) rfl ?_); refine goesL_ (some 12) rfl rfl Try.func62 (by kernel_rfl) rfl #[.int .i64 a1] rfl zm ?_; (with_reducible refine (wide_abs.calls a1 t142 _ A4.out).mono ?_); rintro e w' ⟨rfl, ⟨nd, rfl⟩⟩; refine ⟨_, rfl, ?_⟩; (try (rw [drewN_self w44]; generalize hq_ : World.drewN w44 _ = w44; replace BK138 : Aside0 (w44.heap[gb138]? = some (.cells #[.int .i64 a0_0, .int .u64 a0_1] 35 (0, 0))) := ⟨by rw [← hq_]; exact (bq BK138)⟩; replace BK139 : Aside0 (w44.heap[gb139]? = some (.cells #[.int .i64 0, .int .u64 0] 35 (0, 0))) := ⟨by rw [← hq_]; exact (bq BK139)⟩; replace HB : Aside0 (Below w.heap.size w w44) := ⟨by rw [← hq_]; exact (hq HB)⟩; clear hq_))) | ((with_reducible refine gate_callee (f := 61) rfl ?_); refine goesL_ (some 13) rfl rfl Try.func61 (by kernel_rfl) rfl #[.agg #[.int .u64 t140, .int .u64 t141], .int .u64 t142, .int .u64 0] rfl zm ?_; (with_reducible refine (wide_size_times.calls t140 t141 t142 0 t143 t144 false _ A5.out).mono ?_); rintro e w45 ⟨rfl, hb⟩; refine ⟨_, rfl, ?_⟩; replace BK138 := bb BK138 hb; replace BK139 := bb BK139 hb; replace HB := bs HB hb; (try clear hb); (try clear hb2); (try clear hk); (try clear hi)) | ((with_reducible refine gate_dst (N := 6) rfl ?_); refine box_event ?hg (N := 6) ?hd (cs := #[.int .u64 0, .int .u64 0]) (t := 113) ?hr ?_; (case hd => rfl); (case hg => rfl); (case hr => first | (go_simp; done) | (go_simp; rfl)); intro gb146 hg w46 hbox hb; have BK146 := Aside0.mk (hbox); have GW146 := ge HB hg; have GE146 := ge HB hg; have NB138_146 := nl BK138 hg; have NB146_138 := ng NB138_146; have NB139_146 := nl BK139 hg; have NB146_139 := ng NB139_146; replace BK138 := bb BK138 hb; replace BK139 := bb BK139 hb; replace HB := bs HB hb; clear hb hbox hg; have hnb47 := NB146_138.out; have hnc47 := NB138_146.out; have hnb48 := NB146_139.out; have hnc48 := NB139_146.out; obtain ⟨hcz49_0, hcz49_1, hfz49_0, hfz49_1⟩ := cz2 BK146; obtain ⟨hcz50_0, hcz50_1, hfz50_0, hfz50_1⟩ := cz2 BK139))
    refine bodyPost_ret (results_ct rfl _ _ gb139 35 #[.int .i64 0, .int .u64 0] (0, 0) _ rfl (bp BK139) Try.underlying35 rfl (by kernel_rfl)) rfl ?_
    exact ⟨by first | rfl | (simp [errW_none, errW_some] <;> rfl) | (simp [*, errW_none, errW_some] <;> rfl), hq HB⟩

end Go.Proofs.Ytlmabdiodopidaa.P
