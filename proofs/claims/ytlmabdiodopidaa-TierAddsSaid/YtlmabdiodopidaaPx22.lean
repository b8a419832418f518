-- laid by wip/tools/pr.sh (a patched printer; Lean checks it)
import Derived.Test.YtlmabdiodopidaaSq
import Derived.Test.YtlmabdiodopidaaPx0
import Derived.Test.YtlmabdiodopidaaPx17
import Derived.Test.YtlmabdiodopidaaPx18
import Derived.Test.YtlmabdiodopidaaPx21
namespace Go.Proofs.Ytlmabdiodopidaa.P
open Go.Proofs.Ytlmabdiodopidaa.G
attribute [local go_sem high] un_not64 un_noti run_add64
open Go.RowKit Go.Proofs.YtlmabdiodopidaaW.PrintWords Go.Proofs.YtlmabdiodopidaaW.PrintLast Go.Proofs.YtlmabdiodopidaaW.PrintMore
attribute [local go_sem] max2_int min2_int max_two min_two max_three min_three max_four min_four   -- for this text's walks alone
set_option linter.unusedVariables false
set_option linter.unusedSimpArgs false

/-! ### corebankref01_Scale: function 46 -/
def corebankref01_Scale.f (k : Nat) (a0_0 : Int) (a0_1 : Int) (a1 : Int) : Option (Int × Int × Int) := (corebankref01_Split.f a0_0 a0_1).bind fun bt312 => ((corebankref01_size.f a1).bind fun t316 => ((corebankref01_times.f k bt312.2.1 bt312.2.2 t316).bind fun bt317 => ((corebankref01_Join.f (bt312.1 != (decide (a1 < 0))) bt317.1 bt317.2.1).bind fun bt321 => (if bt317.2.2 = true then (if bt321.2.2 = true then (some (bt321.1, bt321.2.1, 0)) else (some (0, 0, 6))) else (some (0, 0, 6))))))
theorem corebankref01_Scale.mono : ∀ a0 a1 a2 k, LeO (corebankref01_Scale.f k a0 a1 a2) (corebankref01_Scale.f (k + 1) a0 a1 a2) := by
  intro a0 a1 a2 k
  unfold corebankref01_Scale.f
  repeat' first
      | (with_reducible exact corebankref01_times.mono _ _ _ _)
      | (with_reducible exact LeO.refl _)
      | (with_reducible exact LeO.none _)
      | (with_reducible refine LeO.ite ?_ ?_)
      | (with_reducible refine LeO.bind ?_ (fun _ => ?_))
      | exact corebankref01_times.mono _ _ _ _
      | exact LeO.none _
      | refine LeO.ite ?_ ?_
      | refine LeO.bind ?_ (fun _ => ?_)
def corebankref01_Scale.T2 : Bool × List (List Nat × List Nat) := (true, [([], []), ([], []), ([1], [1]), ([0, 2, 2], [0, 2]), ([3], [3]), ([4], [4]), ([4], [4]), ([], []), ([7, 5, 3, 0, 1, 2, 3, 4, 5, 7], [5, 7]), ([6, 8, 0, 1, 2, 3, 4, 5, 6, 7, 8], [6])])
def corebankref01_Scale.B2 : List Nat := [0, 0, 2, 7, 15, 31, 31, 0, 191, 511]
theorem corebankref01_Scale.tab2 : rtab .any (opsOf Try.f46 2) = corebankref01_Scale.T2 := by kernel_rfl
theorem corebankref01_Scale.bits2 : waitsOk corebankref01_Scale.T2.2 corebankref01_Scale.B2 = true := by kernel_rfl
set_option maxHeartbeats 8000000 in
set_option maxRecDepth 100000 in
theorem corebankref01_Scale.calls (k : Nat) (a0_0 : Int) (a0_1 : Int) (a1 : Int) (r1 : Int) (r2 : Int) (r3 : Int) (w : World) (h : corebankref01_Scale.f k a0_0 a0_1 a1 = some (r1, r2, r3)) :
    Calls Try.prog 46 #[.agg #[.int .i64 a0_0, .int .u64 a0_1], .int .i64 a1] w fun e w' => e = .returned (.tuple #[.agg #[.int .i64 r1, .int .u64 r2], .int .i64 r3]) ∧ Below w.heap.size w w' := by
  have hu35 := Try.underlying35
  have hu89 := Try.underlying89
  have HB := Aside0.mk (Below.refl w.heap.size w)
  have H : ((corebankref01_Split.f a0_0 a0_1).bind fun bt312 => ((corebankref01_size.f a1).bind fun t316 => ((corebankref01_times.f k bt312.2.1 bt312.2.2 t316).bind fun bt317 => ((corebankref01_Join.f (bt312.1 != (decide (a1 < 0))) bt317.1 bt317.2.1).bind fun bt321 => (if bt317.2.2 = true then (if bt321.2.2 = true then (some (bt321.1, bt321.2.1, 0)) else (some (0, 0, 6))) else (some (0, 0, 6))))))) = some (r1, r2, r3) := h
  clear h
  replace H := Option.bind_eq_some_iff.mp H
  obtain ⟨⟨t312, t313, t314⟩, A30, H⟩ := H
  replace H : ((corebankref01_size.f a1).bind fun t316 => ((corebankref01_times.f k t313 t314 t316).bind fun bt317 => ((corebankref01_Join.f (t312 != (decide (a1 < 0))) bt317.1 bt317.2.1).bind fun bt321 => (if bt317.2.2 = true then (if bt321.2.2 = true then (some (bt321.1, bt321.2.1, 0)) else (some (0, 0, 6))) else (some (0, 0, 6)))))) = some (r1, r2, r3) := H
  have A3 := Aside0.mk A30
  clear A30
  replace H := Option.bind_eq_some_iff.mp H
  obtain ⟨t316, A40, H⟩ := H
  replace H : ((corebankref01_times.f k t313 t314 t316).bind fun bt317 => ((corebankref01_Join.f (t312 != (decide (a1 < 0))) bt317.1 bt317.2.1).bind fun bt321 => (if bt317.2.2 = true then (if bt321.2.2 = true then (some (bt321.1, bt321.2.1, 0)) else (some (0, 0, 6))) else (some (0, 0, 6))))) = some (r1, r2, r3) := H
  have A4 := Aside0.mk A40
  clear A40
  replace H := Option.bind_eq_some_iff.mp H
  obtain ⟨⟨t317, t318, t319⟩, A50, H⟩ := H
  replace H : ((corebankref01_Join.f (t312 != (decide (a1 < 0))) t317 t318).bind fun bt321 => (if t319 = true then (if bt321.2.2 = true then (some (bt321.1, bt321.2.1, 0)) else (some (0, 0, 6))) else (some (0, 0, 6)))) = some (r1, r2, r3) := H
  have A5 := Aside0.mk A50
  clear A50
  replace H := Option.bind_eq_some_iff.mp H
  obtain ⟨⟨t321, t322, t323⟩, A60, H⟩ := H
  replace H : (if t319 = true then (if t323 = true then (some (t321, t322, 0)) else (some (0, 0, 6))) else (some (0, 0, 6))) = some (r1, r2, r3) := H
  have A6 := Aside0.mk A60
  clear A60
  by_cases c7 : t319 = true
  · subst c7
    have H1 : (if t323 = true then (some (t321, t322, 0)) else (some (0, 0, 6))) = some (r1, r2, r3) := by rw [if_pos rfl] at H; exact H
    clear H
    have H := H1
    clear H1
    by_cases c8 : t323 = true
    · subst c8
      have H1 : (some (t321, t322, 0)) = some (r1, r2, r3) := by rw [if_pos rfl] at H; exact H
      clear H
      have H := H1
      clear H1
      simp only [Option.some.injEq, Prod.mk.injEq] at H
      obtain ⟨rfl, rfl, rfl⟩ := H
      go_enter Try.func46, Try.ntmps46
      try go_wp2_with (first | ((with_reducible refine gate_dst (N := 2) rfl ?_); refine box_event ?hg (N := 2) ?hd (cs := #[.int .i64 a0_0, .int .u64 a0_1]) (t := 35) ?hr ?_; (case hd => rfl); (case hg => rfl); (case hr => first | (go_simp; done) | (go_simp; rfl)); intro gb310 hg w9 hbox hb; have BK310 := Aside0.mk (hbox); have GW310 := ge HB hg; have GE310 := ge HB hg; replace HB := bs HB hb; clear hb hbox hg) | ((with_reducible refine gate_dst (N := 4) rfl ?_); refine box_event ?hg (N := 4) ?hd (cs := #[.int .i64 0, .int .u64 0]) (t := 35) ?hr ?_; (case hd => rfl); (case hg => rfl); (case hr => first | (go_simp; done) | (go_simp; rfl)); intro gb311 hg w10 hbox hb; have BK311 := Aside0.mk (hbox); have GW311 := ge HB hg; have GE311 := ge HB hg; have NB310_311 := nl BK310 hg; have NB311_310 := ng NB310_311; replace BK310 := bb BK310 hb; replace HB := bs HB hb; clear hb hbox hg; have hnb11 := NB310_311.out; have hnc11 := NB311_310.out; obtain ⟨hcz12_0, hcz12_1, hfz12_0, hfz12_1⟩ := cz2 BK310) | ((with_reducible refine gate_callee (f := 48) rfl ?_); refine goesL_ (some 14) rfl rfl Try.func48 (by kernel_rfl) rfl #[.agg #[.int .i64 a0_0, .int .u64 a0_1]] rfl zm ?_; (with_reducible refine (corebankref01_Split.calls a0_0 a0_1 t312 t313 t314 _ A3.out).mono ?_); rintro e w13 ⟨rfl, hb⟩; refine ⟨_, rfl, ?_⟩; replace BK310 := bb BK310 hb; replace BK311 := bb BK311 hb; replace HB := bs HB hb; (try clear hb); (try clear hb2); (try clear hk); (try clear hi)) | ((with_reducible refine gate_dst (N := 7) rfl ?_); refine box_event ?hg (N := 7) ?hd (cs := #[.int .u64 0, .int .u64 0]) (t := 89) ?hr ?_; (case hd => rfl); (case hg => rfl); (case hr => first | (go_simp; done) | (go_simp; rfl)); intro gb315 hg w14 hbox hb; have BK315 := Aside0.mk (hbox); have GW315 := ge HB hg; have GE315 := ge HB hg; have NB310_315 := nl BK310 hg; have NB315_310 := ng NB310_315; have NB311_315 := nl BK311 hg; have NB315_311 := ng NB311_315; replace BK310 := bb BK310 hb; replace BK311 := bb BK311 hb; replace HB := bs HB hb; clear hb hbox hg; have hnb15 := NB315_310.out; have hnc15 := NB310_315.out; have hnb16 := NB315_311.out; have hnc16 := NB311_315.out; obtain ⟨hcz17_0, hcz17_1, hfz17_0, hfz17_1⟩ := cz2 BK315))
      have n0_ : Aside0 (((w14.setCell ⟨gb315, 0, none⟩ (.int .u64 t313)).setCell ⟨gb315, 1, none⟩ (.int .u64 t314)).heap[gb310]? = some (.cells #[.int .i64 a0_0, .int .u64 a0_1] 35 (0, 0))) := ⟨bq BK310⟩
      have n1_ : Aside0 (((w14.setCell ⟨gb315, 0, none⟩ (.int .u64 t313)).setCell ⟨gb315, 1, none⟩ (.int .u64 t314)).heap[gb311]? = some (.cells #[.int .i64 0, .int .u64 0] 35 (0, 0))) := ⟨bq BK311⟩
      have n2_ : Aside0 (((w14.setCell ⟨gb315, 0, none⟩ (.int .u64 t313)).setCell ⟨gb315, 1, none⟩ (.int .u64 t314)).heap[gb315]? = some (.cells #[.int .u64 t313, .int .u64 t314] 89 (0, 0))) := ⟨bp BK315⟩
      have n3_ : Aside0 (Below w.heap.size w ((w14.setCell ⟨gb315, 0, none⟩ (.int .u64 t313)).setCell ⟨gb315, 1, none⟩ (.int .u64 t314))) := ⟨hq HB⟩
      (try clear BK310)
      (try clear BK311)
      (try clear BK315)
      (try clear HB)
      generalize ((w14.setCell ⟨gb315, 0, none⟩ (.int .u64 t313)).setCell ⟨gb315, 1, none⟩ (.int .u64 t314)) = w18 at n0_ n1_ n2_ n3_ ⊢
      have BK310 := n0_
      have BK311 := n1_
      have BK315 := n2_
      have HB := n3_
      clear n0_ n1_ n2_ n3_
      replace BK310 := bd1 BK310
      replace BK311 := bd1 BK311
      replace BK315 := bd1 BK315
      replace HB := hb1 HB
      refine start_ (n := 10) (S := fun w' => w'.cell? ⟨gb315, 0, none⟩ = some (.int .u64 t313) ∧ w'.cell? ⟨gb315, 1, none⟩ = some (.int .u64 t314)) (ds := []) #[false, false, false, false, false, false, false, false, false, false] (by kernel_rfl) rfl rfl ⟨(blk_cell BK315.out 0).trans rfl, (blk_cell BK315.out 1).trans rfl⟩ (fun hHeld => ?_); refine with_tabW corebankref01_Scale.tab2 corebankref01_Scale.bits2 (fun HT_ HW_ => ?_)
      generalize w18.drew = w19 at BK310 BK311 BK315 HB hHeld ⊢
      refine pz (i := 1) (N := some 19) #[false, true, false, false, false, false, false, false, false, false] rfl rfl (any_of HT_.out (by kernel_rfl)) (fun _ _ _ h => h) ?_
      refine tz2 (i := 0) (N := some 18) #[true, true, false, false, false, false, false, false, false, false] rfl rfl (take_ofW HT_.out HW_.out (by kernel_rfl)) (fun _ _ _ h => h) hHeld ?_
      refine join_ (σ := Nat) 2 #[true, true, true, true, true, true, true, true, false, false] (fun s_ => [(20, .int .u64 t316), (21, .tuple #[.agg #[.int .u64 t317, .int .u64 t318], .bool true]), (8, .pointer (some ⟨s_, 0, none⟩)), (17, .tuple #[.agg #[.int .u64 t317, .int .u64 t318], .bool true]), (22, .agg #[.int .u64 t317, .int .u64 t318]), (23, .bool true)]) (fun s_ w' => (w'.cell? ⟨gb315, 0, none⟩ = some (.int .u64 t313) ∧ w'.cell? ⟨gb315, 1, none⟩ = some (.int .u64 t314)) ∧ (w'.heap[gb310]? = some (.cells #[.int .i64 a0_0, .int .u64 a0_1] 35 (0, 0))) ∧ (w'.heap[gb311]? = some (.cells #[.int .i64 0, .int .u64 0] 35 (0, 0))) ∧ (w'.heap[gb315]? = some (.cells #[.int .u64 t313, .int .u64 t314] 89 (0, 0))) ∧ (w'.heap[s_]? = some (.cells #[.int .u64 0, .int .u64 0] 89 (0, 0))) ∧ (w.heap.size ≤ s_) ∧ (w.heap.size ≤ s_) ∧ (gb310 ≠ s_) ∧ (s_ ≠ gb310) ∧ (gb311 ≠ s_) ∧ (s_ ≠ gb311) ∧ (gb315 ≠ s_) ∧ (s_ ≠ gb315) ∧ (Below w.heap.size w w')) ?_ ?_
      rotate_left
      · intro hCont
        refine two_ (i := 2) (j := 7) (Ni := some 20) (Nj := some 8) #[true, true, true, false, false, false, false, false, false, false] #[true, true, false, false, false, false, false, true, false, false] rfl rfl rfl rfl (two_of HT_.out (by kernel_rfl)) (by decide) (by decide) (fun K hK => ?_) (fun K hK => ?_)
        · skip
          refine goes_ Try.func68 (by kernel_rfl) rfl #[.int .i64 a1] (by rfl) rfl rfl zm ?_
          with_reducible refine (corebankref01_size.calls a1 t316 _ A4.out).mono ?_
          rintro e w' ⟨rfl, ⟨nd, rfl⟩⟩
          refine ⟨_, rfl, ?_⟩
          refine hK.out _ _ ⟨(blk_cell BK315.out 0).trans rfl, (blk_cell BK315.out 1).trans rfl⟩ (fun hHeld => ?_)
          clear hK K
          refine norm_ (a' := ?_) ?_ ?_
          rotate_left
          · show Act.put _ (some 20) _ = _
            simp only [Act.put, List.setIfInBounds_toArray, List.set_cons_zero, List.set_cons_succ, i64_w, i32_w]
            rfl
          refine two_ (i := 3) (j := 7) (Ni := some 21) (Nj := some 8) #[true, true, true, true, false, false, false, false, false, false] #[true, true, true, false, false, false, false, true, false, false] rfl rfl rfl rfl (two_of HT_.out (by kernel_rfl)) (by decide) (by decide) (fun K hK => ?_) (fun K hK => ?_)
          · skip
            refine goes_ Try.func67 (by kernel_rfl) rfl #[.agg #[.int .u64 t313, .int .u64 t314], .int .u64 t316] (by rfl) rfl rfl zm ?_
            with_reducible refine (corebankref01_times.calls k t313 t314 t316 t317 t318 true _ A5.out).mono ?_
            rintro e w20 ⟨rfl, hb⟩
            refine ⟨_, rfl, ?_⟩
            replace BK310 := bb BK310 hb
            replace BK311 := bb BK311 hb
            replace BK315 := bb BK315 hb
            replace HB := bs HB hb
            (try clear hb)
            (try clear hb2)
            (try clear hk)
            (try clear hi)
            refine hK.out _ _ ⟨(blk_cell BK315.out 0).trans rfl, (blk_cell BK315.out 1).trans rfl⟩ (fun hHeld => ?_)
            clear hK K
            refine norm_ (a' := ?_) ?_ ?_
            rotate_left
            · show Act.put _ (some 21) _ = _
              simp only [Act.put, List.setIfInBounds_toArray, List.set_cons_zero, List.set_cons_succ, i64_w, i32_w]
              rfl
            refine pz (i := 4) (N := some 17) #[true, true, true, true, true, false, false, false, false, false] rfl rfl (any_of HT_.out (by kernel_rfl)) (fun _ _ _ h => h) ?_
            refine pz (i := 5) (N := some 22) #[true, true, true, true, true, true, false, false, false, false] rfl rfl (any_of HT_.out (by kernel_rfl)) (fun _ _ _ h => h) ?_
            refine pz (i := 6) (N := some 23) #[true, true, true, true, true, true, true, false, false, false] rfl rfl (any_of HT_.out (by kernel_rfl)) (fun _ _ _ h => h) ?_
            refine one_ (i := 7) (N := some 8) #[true, true, true, true, true, true, true, true, false, false] rfl rfl (one_of HT_.out (by kernel_rfl)) (by decide) (fun K hK => ?_)
            refine box_step ?hg (N := 8) ?hd (cs := #[.int .u64 0, .int .u64 0]) (t := 89) ?hr ?_; (case hd => rfl); (case hg => rfl); (case hr => first | (go_simp; done) | (go_simp; rfl))
            intro gb320 hg w21 hbox hb
            have BK320 := Aside0.mk (hbox)
            have GW320 := ge HB hg
            have GE320 := ge HB hg
            have NB310_320 := nl BK310 hg
            have NB320_310 := ng NB310_320
            have NB311_320 := nl BK311 hg
            have NB320_311 := ng NB311_320
            have NB315_320 := nl BK315 hg
            have NB320_315 := ng NB315_320
            replace BK310 := bb BK310 hb
            replace BK311 := bb BK311 hb
            replace BK315 := bb BK315 hb
            replace HB := bs HB hb
            clear hb hbox hg
            refine hK.out _ _ ⟨(blk_cell BK315.out 0).trans rfl, (blk_cell BK315.out 1).trans rfl⟩ (fun hHeld => ?_)
            clear hK K
            refine norm_ (a' := ?_) ?_ ?_
            rotate_left
            · show Act.put _ (some 8) _ = _
              simp only [Act.put, List.setIfInBounds_toArray, List.set_cons_zero, List.set_cons_succ, i64_w, i32_w]
              rfl
            exact norm_ (by simp only [putAll, Act.put, List.setIfInBounds_toArray, List.set_cons_zero, List.set_cons_succ]) (hCont (gb320) _ ⟨hHeld, (bq BK310), (bq BK311), (bq BK315), (bq BK320), GW320.out, GE320.out, NB310_320.out, NB320_310.out, NB311_320.out, NB320_311.out, NB315_320.out, NB320_315.out, (hq HB)⟩)
          · skip
            refine box_step ?hg (N := 8) ?hd (cs := #[.int .u64 0, .int .u64 0]) (t := 89) ?hr ?_; (case hd => rfl); (case hg => rfl); (case hr => first | (go_simp; done) | (go_simp; rfl))
            intro gb320 hg w20 hbox hb
            have BK320 := Aside0.mk (hbox)
            have GW320 := ge HB hg
            have GE320 := ge HB hg
            have NB310_320 := nl BK310 hg
            have NB320_310 := ng NB310_320
            have NB311_320 := nl BK311 hg
            have NB320_311 := ng NB311_320
            have NB315_320 := nl BK315 hg
            have NB320_315 := ng NB315_320
            replace BK310 := bb BK310 hb
            replace BK311 := bb BK311 hb
            replace BK315 := bb BK315 hb
            replace HB := bs HB hb
            clear hb hbox hg
            refine hK.out _ _ ⟨(blk_cell BK315.out 0).trans rfl, (blk_cell BK315.out 1).trans rfl⟩ (fun hHeld => ?_)
            clear hK K
            refine norm_ (a' := ?_) ?_ ?_
            rotate_left
            · show Act.put _ (some 8) _ = _
              simp only [Act.put, List.setIfInBounds_toArray, List.set_cons_zero, List.set_cons_succ, i64_w, i32_w]
              rfl
            refine one_ (i := 3) (N := some 21) #[true, true, true, true, false, false, false, true, false, false] rfl rfl (one_of HT_.out (by kernel_rfl)) (by decide) (fun K hK => ?_)
            refine goes_ Try.func67 (by kernel_rfl) rfl #[.agg #[.int .u64 t313, .int .u64 t314], .int .u64 t316] (by rfl) rfl rfl zm ?_
            with_reducible refine (corebankref01_times.calls k t313 t314 t316 t317 t318 true _ A5.out).mono ?_
            rintro e w21 ⟨rfl, hb⟩
            refine ⟨_, rfl, ?_⟩
            replace BK310 := bb BK310 hb
            replace BK311 := bb BK311 hb
            replace BK315 := bb BK315 hb
            replace BK320 := bb BK320 hb
            replace HB := bs HB hb
            (try clear hb)
            (try clear hb2)
            (try clear hk)
            (try clear hi)
            refine hK.out _ _ ⟨(blk_cell BK315.out 0).trans rfl, (blk_cell BK315.out 1).trans rfl⟩ (fun hHeld => ?_)
            clear hK K
            refine norm_ (a' := ?_) ?_ ?_
            rotate_left
            · show Act.put _ (some 21) _ = _
              simp only [Act.put, List.setIfInBounds_toArray, List.set_cons_zero, List.set_cons_succ, i64_w, i32_w]
              rfl
            refine pz (i := 4) (N := some 17) #[true, true, true, true, true, false, false, true, false, false] rfl rfl (any_of HT_.out (by kernel_rfl)) (fun _ _ _ h => h) ?_
            refine pz (i := 5) (N := some 22) #[true, true, true, true, true, true, false, true, false, false] rfl rfl (any_of HT_.out (by kernel_rfl)) (fun _ _ _ h => h) ?_
            refine pz (i := 6) (N := some 23) #[true, true, true, true, true, true, true, true, false, false] rfl rfl (any_of HT_.out (by kernel_rfl)) (fun _ _ _ h => h) ?_
            exact norm_ (by simp only [putAll, Act.put, List.setIfInBounds_toArray, List.set_cons_zero, List.set_cons_succ]) (hCont (gb320) _ ⟨hHeld, (bq BK310), (bq BK311), (bq BK315), (bq BK320), GW320.out, GE320.out, NB310_320.out, NB320_310.out, NB311_320.out, NB320_311.out, NB315_320.out, NB320_315.out, (hq HB)⟩)
        · skip
          refine box_step ?hg (N := 8) ?hd (cs := #[.int .u64 0, .int .u64 0]) (t := 89) ?hr ?_; (case hd => rfl); (case hg => rfl); (case hr => first | (go_simp; done) | (go_simp; rfl))
          intro gb320 hg w20 hbox hb
          have BK320 := Aside0.mk (hbox)
          have GW320 := ge HB hg
          have GE320 := ge HB hg
          have NB310_320 := nl BK310 hg
          have NB320_310 := ng NB310_320
          have NB311_320 := nl BK311 hg
          have NB320_311 := ng NB311_320
          have NB315_320 := nl BK315 hg
          have NB320_315 := ng NB315_320
          replace BK310 := bb BK310 hb
          replace BK311 := bb BK311 hb
          replace BK315 := bb BK315 hb
          replace HB := bs HB hb
          clear hb hbox hg
          refine hK.out _ _ ⟨(blk_cell BK315.out 0).trans rfl, (blk_cell BK315.out 1).trans rfl⟩ (fun hHeld => ?_)
          clear hK K
          refine norm_ (a' := ?_) ?_ ?_
          rotate_left
          · show Act.put _ (some 8) _ = _
            simp only [Act.put, List.setIfInBounds_toArray, List.set_cons_zero, List.set_cons_succ, i64_w, i32_w]
            rfl
          refine one_ (i := 2) (N := some 20) #[true, true, true, false, false, false, false, true, false, false] rfl rfl (one_of HT_.out (by kernel_rfl)) (by decide) (fun K hK => ?_)
          refine goes_ Try.func68 (by kernel_rfl) rfl #[.int .i64 a1] (by rfl) rfl rfl zm ?_
          with_reducible refine (corebankref01_size.calls a1 t316 _ A4.out).mono ?_
          rintro e w' ⟨rfl, ⟨nd, rfl⟩⟩
          refine ⟨_, rfl, ?_⟩
          refine hK.out _ _ ⟨(blk_cell BK315.out 0).trans rfl, (blk_cell BK315.out 1).trans rfl⟩ (fun hHeld => ?_)
          clear hK K
          refine norm_ (a' := ?_) ?_ ?_
          rotate_left
          · show Act.put _ (some 20) _ = _
            simp only [Act.put, List.setIfInBounds_toArray, List.set_cons_zero, List.set_cons_succ, i64_w, i32_w]
            rfl
          refine one_ (i := 3) (N := some 21) #[true, true, true, true, false, false, false, true, false, false] rfl rfl (one_of HT_.out (by kernel_rfl)) (by decide) (fun K hK => ?_)
          refine goes_ Try.func67 (by kernel_rfl) rfl #[.agg #[.int .u64 t313, .int .u64 t314], .int .u64 t316] (by rfl) rfl rfl zm ?_
          with_reducible refine (corebankref01_times.calls k t313 t314 t316 t317 t318 true _ A5.out).mono ?_
          rintro e w21 ⟨rfl, hb⟩
          refine ⟨_, rfl, ?_⟩
          replace BK310 := bb BK310 hb
          replace BK311 := bb BK311 hb
          replace BK315 := bb BK315 hb
          replace BK320 := bb BK320 hb
          replace HB := bs HB hb
          (try clear hb)
          (try clear hb2)
          (try clear hk)
          (try clear hi)
          refine hK.out _ _ ⟨(blk_cell BK315.out 0).trans rfl, (blk_cell BK315.out 1).trans rfl⟩ (fun hHeld => ?_)
          clear hK K
          refine norm_ (a' := ?_) ?_ ?_
          rotate_left
          · show Act.put _ (some 21) _ = _
            simp only [Act.put, List.setIfInBounds_toArray, List.set_cons_zero, List.set_cons_succ, i64_w, i32_w]
            rfl
          refine pz (i := 4) (N := some 17) #[true, true, true, true, true, false, false, true, false, false] rfl rfl (any_of HT_.out (by kernel_rfl)) (fun _ _ _ h => h) ?_
          refine pz (i := 5) (N := some 22) #[true, true, true, true, true, true, false, true, false, false] rfl rfl (any_of HT_.out (by kernel_rfl)) (fun _ _ _ h => h) ?_
          refine pz (i := 6) (N := some 23) #[true, true, true, true, true, true, true, true, false, false] rfl rfl (any_of HT_.out (by kernel_rfl)) (fun _ _ _ h => h) ?_
          exact norm_ (by simp only [putAll, Act.put, List.setIfInBounds_toArray, List.set_cons_zero, List.set_cons_succ]) (hCont (gb320) _ ⟨hHeld, (bq BK310), (bq BK311), (bq BK315), (bq BK320), GW320.out, GE320.out, NB310_320.out, NB320_310.out, NB311_320.out, NB320_311.out, NB315_320.out, NB320_315.out, (hq HB)⟩)
      rintro gb320 w22 ⟨hS_, h0_, h1_, h2_, h3_, h4_, h5_, h6_, h7_, h8_, h9_, h10_, h11_, h12_⟩
      have BK320 : Aside0 (w22.heap[gb320]? = some (.cells #[.int .u64 0, .int .u64 0] 89 (0, 0))) := ⟨h3_⟩
      have GW320 : Aside0 (w.heap.size ≤ gb320) := ⟨h4_⟩
      have GE320 : Aside0 (w.heap.size ≤ gb320) := ⟨h5_⟩
      have NB310_320 : Aside0 (gb310 ≠ gb320) := ⟨h6_⟩
      have NB320_310 : Aside0 (gb320 ≠ gb310) := ⟨h7_⟩
      have NB311_320 : Aside0 (gb311 ≠ gb320) := ⟨h8_⟩
      have NB320_311 : Aside0 (gb320 ≠ gb311) := ⟨h9_⟩
      have NB315_320 : Aside0 (gb315 ≠ gb320) := ⟨h10_⟩
      have NB320_315 : Aside0 (gb320 ≠ gb315) := ⟨h11_⟩
      replace BK310 : Aside0 (w22.heap[gb310]? = some (.cells #[.int .i64 a0_0, .int .u64 a0_1] 35 (0, 0))) := ⟨h0_⟩
      replace BK311 : Aside0 (w22.heap[gb311]? = some (.cells #[.int .i64 0, .int .u64 0] 35 (0, 0))) := ⟨h1_⟩
      replace BK315 : Aside0 (w22.heap[gb315]? = some (.cells #[.int .u64 t313, .int .u64 t314] 89 (0, 0))) := ⟨h2_⟩
      replace HB : Aside0 (Below w.heap.size w w22) := ⟨h12_⟩
      clear h0_ h1_ h2_ h3_ h4_ h5_ h6_ h7_ h8_ h9_ h10_ h11_ h12_
      have hHeld : w22.cell? ⟨gb315, 0, none⟩ = some (.int .u64 t313) ∧ w22.cell? ⟨gb315, 1, none⟩ = some (.int .u64 t314) := hS_
      refine norm_ (a' := ?_) ?_ ?_
      rotate_left
      · simp only [putAll, Act.put, List.setIfInBounds_toArray, List.set_cons_zero, List.set_cons_succ]
        rfl
      refine one_ (i := 8) (N := none) #[true, true, true, true, true, true, true, true, true, false] rfl rfl (one_of HT_.out (by kernel_rfl)) (by decide) (fun K hK => ?_)
      have hs23 : w22.cell? ⟨gb320, 0, none⟩ = some (.int .u64 0) := (blk_cell BK320.out 0).trans rfl
      have hfs23 := blk_frozen BK320.out 0
      have hns23_0 := NB310_320.out
      have hns23_1 := NB311_320.out
      have hns23_2 := NB315_320.out
      have hms23_0 := NB320_310.out
      have hms23_1 := NB320_311.out
      have hms23_2 := NB320_315.out
      have hs24 : w22.cell? ⟨gb320, 1, none⟩ = some (.int .u64 0) := (blk_cell BK320.out 1).trans rfl
      have hfs24 := blk_frozen BK320.out 1
      have hns24_0 := NB310_320.out
      have hns24_1 := NB311_320.out
      have hns24_2 := NB315_320.out
      have hms24_0 := NB320_310.out
      have hms24_1 := NB320_311.out
      have hms24_2 := NB320_315.out
      refine skip_ (w1 := ?_) (by rfl) rfl ?_ ?_
      rotate_left
      · go_simp
        rfl
      refine hK.out _ _ ⟨((cell_far (p := ⟨gb320, _, none⟩) NB315_320.out _).trans (((cell_far (p := ⟨gb320, _, none⟩) NB315_320.out _).trans (hHeld.1)))), ((cell_far (p := ⟨gb320, _, none⟩) NB315_320.out _).trans (((cell_far (p := ⟨gb320, _, none⟩) NB315_320.out _).trans (hHeld.2))))⟩ (fun hHeld => ?_)
      clear hK K
      refine pz (i := 9) (N := some 9) #[true, true, true, true, true, true, true, true, true, true] rfl rfl (any_of HT_.out (by kernel_rfl)) (fun _ _ _ h => h) ?_
      refine done_ (done_of HT_.out (by kernel_rfl)) ?_
      have hnb25 := NB320_310.out
      have hnc25 := NB310_320.out
      have hnb26 := NB320_311.out
      have hnc26 := NB311_320.out
      have hnb27 := NB320_315.out
      have hnc27 := NB315_320.out
      obtain ⟨hcz28_0, hcz28_1, hfz28_0, hfz28_1⟩ := cz2 BK320
      try go_wp2_with (first | ((with_reducible refine gate_callee (f := 69) rfl ?_); refine goesL_ (some 30) rfl rfl Try.func69 (by kernel_rfl) rfl #[.bool (t312 != (decide (a1 < 0))), .agg #[.int .u64 t317, .int .u64 t318]] rfl zm ?_; (with_reducible refine (corebankref01_Join.calls (t312 != (decide (a1 < 0))) t317 t318 t321 t322 true _ A6.out).mono ?_); rintro e w29 ⟨rfl, hb⟩; refine ⟨_, rfl, ?_⟩; replace BK310 := bb BK310 hb; replace BK311 := bb BK311 hb; replace BK315 := bb BK315 hb; replace BK320 := bpb BK320 hb #[.int .u64 t317, .int .u64 t318]; replace HB := bs HB hb; (try clear hb); (try clear hb2); (try clear hk); (try clear hi)) | ((with_reducible refine gate_dst (N := 10) rfl ?_); refine box_event ?hg (N := 10) ?hd (cs := #[.int .i64 0, .int .u64 0]) (t := 35) ?hr ?_; (case hd => rfl); (case hg => rfl); (case hr => first | (go_simp; done) | (go_simp; rfl)); intro gb324 hg w30 hbox hb; have BK324 := Aside0.mk (hbox); have GW324 := ge HB hg; have GE324 := ge HB hg; have NB310_324 := nl BK310 hg; have NB324_310 := ng NB310_324; have NB311_324 := nl BK311 hg; have NB324_311 := ng NB311_324; have NB315_324 := nl BK315 hg; have NB324_315 := ng NB315_324; have NB320_324 := nl BK320 hg; have NB324_320 := ng NB320_324; replace BK310 := bb BK310 hb; replace BK311 := bb BK311 hb; replace BK315 := bb BK315 hb; replace BK320 := bb BK320 hb; replace HB := bs HB hb; clear hb hbox hg; have hnb31 := NB324_310.out; have hnc31 := NB310_324.out; have hnb32 := NB324_311.out; have hnc32 := NB311_324.out; have hnb33 := NB324_315.out; have hnc33 := NB315_324.out; have hnb34 := NB324_320.out; have hnc34 := NB320_324.out; obtain ⟨hcz35_0, hcz35_1, hfz35_0, hfz35_1⟩ := cz2 BK324; obtain ⟨hcz36_0, hcz36_1, hfz36_0, hfz36_1⟩ := cz2 BK311))
      refine bodyPost_ret (results_ct rfl _ _ gb311 35 #[.int .i64 t321, .int .u64 t322] (0, 0) _ rfl (bp BK311) Try.underlying35 rfl (by kernel_rfl)) rfl ?_
      exact ⟨by first | rfl | (simp [errW_none, errW_some] <;> rfl) | (simp [*, errW_none, errW_some] <;> rfl), hq HB⟩
    · replace c8 := Bool.eq_false_iff.mpr c8
      subst c8
      have H1 : (some (0, 0, 6)) = some (r1, r2, r3) := by rw [if_neg (show ¬ (false = true) by decide)] at H; exact H
      clear H
      have H := H1
      clear H1
      simp only [Option.some.injEq, Prod.mk.injEq] at H
      obtain ⟨rfl, rfl, rfl⟩ := H
      go_enter Try.func46, Try.ntmps46
      try go_wp2_with (first | ((with_reducible refine gate_dst (N := 2) rfl ?_); refine box_event ?hg (N := 2) ?hd (cs := #[.int .i64 a0_0, .int .u64 a0_1]) (t := 35) ?hr ?_; (case hd => rfl); (case hg => rfl); (case hr => first | (go_simp; done) | (go_simp; rfl)); intro gb310 hg w37 hbox hb; have BK310 := Aside0.mk (hbox); have GW310 := ge HB hg; have GE310 := ge HB hg; replace HB := bs HB hb; clear hb hbox hg) | ((with_reducible refine gate_dst (N := 4) rfl ?_); refine box_event ?hg (N := 4) ?hd (cs := #[.int .i64 0, .int .u64 0]) (t := 35) ?hr ?_; (case hd => rfl); (case hg => rfl); (case hr => first | (go_simp; done) | (go_simp; rfl)); intro gb311 hg w38 hbox hb; have BK311 := Aside0.mk (hbox); have GW311 := ge HB hg; have GE311 := ge HB hg; have NB310_311 := nl BK310 hg; have NB311_310 := ng NB310_311; replace BK310 := bb BK310 hb; replace HB := bs HB hb; clear hb hbox hg; have hnb39 := NB310_311.out; have hnc39 := NB311_310.out; obtain ⟨hcz40_0, hcz40_1, hfz40_0, hfz40_1⟩ := cz2 BK310) | ((with_reducible refine gate_callee (f := 48) rfl ?_); refine goesL_ (some 14) rfl rfl Try.func48 (by kernel_rfl) rfl #[.agg #[.int .i64 a0_0, .int .u64 a0_1]] rfl zm ?_; (with_reducible refine (corebankref01_Split.calls a0_0 a0_1 t312 t313 t314 _ A3.out).mono ?_); rintro e w41 ⟨rfl, hb⟩; refine ⟨_, rfl, ?_⟩; replace BK310 := bb BK310 hb; replace BK311 := bb BK311 hb; replace HB := bs HB hb; (try clear hb); (try clear hb2); (try clear hk); (try clear hi)) | ((with_reducible refine gate_dst (N := 7) rfl ?_); refine box_event ?hg (N := 7) ?hd (cs := #[.int .u64 0, .int .u64 0]) (t := 89) ?hr ?_; (case hd => rfl); (case hg => rfl); (case hr => first | (go_simp; done) | (go_simp; rfl)); intro gb315 hg w42 hbox hb; have BK315 := Aside0.mk (hbox); have GW315 := ge HB hg; have GE315 := ge HB hg; have NB310_315 := nl BK310 hg; have NB315_310 := ng NB310_315; have NB311_315 := nl BK311 hg; have NB315_311 := ng NB311_315; replace BK310 := bb BK310 hb; replace BK311 := bb BK311 hb; replace HB := bs HB hb; clear hb hbox hg; have hnb43 := NB315_310.out; have hnc43 := NB310_315.out; have hnb44 := NB315_311.out; have hnc44 := NB311_315.out; obtain ⟨hcz45_0, hcz45_1, hfz45_0, hfz45_1⟩ := cz2 BK315))
      have n0_ : Aside0 (((w42.setCell ⟨gb315, 0, none⟩ (.int .u64 t313)).setCell ⟨gb315, 1, none⟩ (.int .u64 t314)).heap[gb310]? = some (.cells #[.int .i64 a0_0, .int .u64 a0_1] 35 (0, 0))) := ⟨bq BK310⟩
      have n1_ : Aside0 (((w42.setCell ⟨gb315, 0, none⟩ (.int .u64 t313)).setCell ⟨gb315, 1, none⟩ (.int .u64 t314)).heap[gb311]? = some (.cells #[.int .i64 0, .int .u64 0] 35 (0, 0))) := ⟨bq BK311⟩
      have n2_ : Aside0 (((w42.setCell ⟨gb315, 0, none⟩ (.int .u64 t313)).setCell ⟨gb315, 1, none⟩ (.int .u64 t314)).heap[gb315]? = some (.cells #[.int .u64 t313, .int .u64 t314] 89 (0, 0))) := ⟨bp BK315⟩
      have n3_ : Aside0 (Below w.heap.size w ((w42.setCell ⟨gb315, 0, none⟩ (.int .u64 t313)).setCell ⟨gb315, 1, none⟩ (.int .u64 t314))) := ⟨hq HB⟩
      (try clear BK310)
      (try clear BK311)
      (try clear BK315)
      (try clear HB)
      generalize ((w42.setCell ⟨gb315, 0, none⟩ (.int .u64 t313)).setCell ⟨gb315, 1, none⟩ (.int .u64 t314)) = w46 at n0_ n1_ n2_ n3_ ⊢
      have BK310 := n0_
      have BK311 := n1_
      have BK315 := n2_
      have HB := n3_
      clear n0_ n1_ n2_ n3_
      replace BK310 := bd1 BK310
      replace BK311 := bd1 BK311
      replace BK315 := bd1 BK315
      replace HB := hb1 HB
      refine start_ (n := 10) (S := fun w' => w'.cell? ⟨gb315, 0, none⟩ = some (.int .u64 t313) ∧ w'.cell? ⟨gb315, 1, none⟩ = some (.int .u64 t314)) (ds := []) #[false, false, false, false, false, false, false, false, false, false] (by kernel_rfl) rfl rfl ⟨(blk_cell BK315.out 0).trans rfl, (blk_cell BK315.out 1).trans rfl⟩ (fun hHeld => ?_); refine with_tabW corebankref01_Scale.tab2 corebankref01_Scale.bits2 (fun HT_ HW_ => ?_)
      generalize w46.drew = w47 at BK310 BK311 BK315 HB hHeld ⊢
      refine pz (i := 1) (N := some 19) #[false, true, false, false, false, false, false, false, false, false] rfl rfl (any_of HT_.out (by kernel_rfl)) (fun _ _ _ h => h) ?_
      refine tz2 (i := 0) (N := some 18) #[true, true, false, false, false, false, false, false, false, false] rfl rfl (take_ofW HT_.out HW_.out (by kernel_rfl)) (fun _ _ _ h => h) hHeld ?_
      refine join_ (σ := Nat) 2 #[true, true, true, true, true, true, true, true, false, false] (fun s_ => [(20, .int .u64 t316), (21, .tuple #[.agg #[.int .u64 t317, .int .u64 t318], .bool true]), (8, .pointer (some ⟨s_, 0, none⟩)), (17, .tuple #[.agg #[.int .u64 t317, .int .u64 t318], .bool true]), (22, .agg #[.int .u64 t317, .int .u64 t318]), (23, .bool true)]) (fun s_ w' => (w'.cell? ⟨gb315, 0, none⟩ = some (.int .u64 t313) ∧ w'.cell? ⟨gb315, 1, none⟩ = some (.int .u64 t314)) ∧ (w'.heap[gb310]? = some (.cells #[.int .i64 a0_0, .int .u64 a0_1] 35 (0, 0))) ∧ (w'.heap[gb311]? = some (.cells #[.int .i64 0, .int .u64 0] 35 (0, 0))) ∧ (w'.heap[gb315]? = some (.cells #[.int .u64 t313, .int .u64 t314] 89 (0, 0))) ∧ (w'.heap[s_]? = some (.cells #[.int .u64 0, .int .u64 0] 89 (0, 0))) ∧ (w.heap.size ≤ s_) ∧ (w.heap.size ≤ s_) ∧ (gb310 ≠ s_) ∧ (s_ ≠ gb310) ∧ (gb311 ≠ s_) ∧ (s_ ≠ gb311) ∧ (gb315 ≠ s_) ∧ (s_ ≠ gb315) ∧ (Below w.heap.size w w')) ?_ ?_
      rotate_left
      · intro hCont
        refine two_ (i := 2) (j := 7) (Ni := some 20) (Nj := some 8) #[true, true, true, false, false, false, false, false, false, false] #[true, true, false, false, false, false, false, true, false, false] rfl rfl rfl rfl (two_of HT_.out (by kernel_rfl)) (by decide) (by decide) (fun K hK => ?_) (fun K hK => ?_)
        · skip
          refine goes_ Try.func68 (by kernel_rfl) rfl #[.int .i64 a1] (by rfl) rfl rfl zm ?_
          with_reducible refine (corebankref01_size.calls a1 t316 _ A4.out).mono ?_
          rintro e w' ⟨rfl, ⟨nd, rfl⟩⟩
          refine ⟨_, rfl, ?_⟩
          refine hK.out _ _ ⟨(blk_cell BK315.out 0).trans rfl, (blk_cell BK315.out 1).trans rfl⟩ (fun hHeld => ?_)
          clear hK K
          refine norm_ (a' := ?_) ?_ ?_
          rotate_left
          · show Act.put _ (some 20) _ = _
            simp only [Act.put, List.setIfInBounds_toArray, List.set_cons_zero, List.set_cons_succ, i64_w, i32_w]
            rfl
          refine two_ (i := 3) (j := 7) (Ni := some 21) (Nj := some 8) #[true, true, true, true, false, false, false, false, false, false] #[true, true, true, false, false, false, false, true, false, false] rfl rfl rfl rfl (two_of HT_.out (by kernel_rfl)) (by decide) (by decide) (fun K hK => ?_) (fun K hK => ?_)
          · skip
            refine goes_ Try.func67 (by kernel_rfl) rfl #[.agg #[.int .u64 t313, .int .u64 t314], .int .u64 t316] (by rfl) rfl rfl zm ?_
            with_reducible refine (corebankref01_times.calls k t313 t314 t316 t317 t318 true _ A5.out).mono ?_
            rintro e w48 ⟨rfl, hb⟩
            refine ⟨_, rfl, ?_⟩
            replace BK310 := bb BK310 hb
            replace BK311 := bb BK311 hb
            replace BK315 := bb BK315 hb
            replace HB := bs HB hb
            (try clear hb)
            (try clear hb2)
            (try clear hk)
            (try clear hi)
            refine hK.out _ _ ⟨(blk_cell BK315.out 0).trans rfl, (blk_cell BK315.out 1).trans rfl⟩ (fun hHeld => ?_)
            clear hK K
            refine norm_ (a' := ?_) ?_ ?_
            rotate_left
            · show Act.put _ (some 21) _ = _
              simp only [Act.put, List.setIfInBounds_toArray, List.set_cons_zero, List.set_cons_succ, i64_w, i32_w]
              rfl
            refine pz (i := 4) (N := some 17) #[true, true, true, true, true, false, false, false, false, false] rfl rfl (any_of HT_.out (by kernel_rfl)) (fun _ _ _ h => h) ?_
            refine pz (i := 5) (N := some 22) #[true, true, true, true, true, true, false, false, false, false] rfl rfl (any_of HT_.out (by kernel_rfl)) (fun _ _ _ h => h) ?_
            refine pz (i := 6) (N := some 23) #[true, true, true, true, true, true, true, false, false, false] rfl rfl (any_of HT_.out (by kernel_rfl)) (fun _ _ _ h => h) ?_
            refine one_ (i := 7) (N := some 8) #[true, true, true, true, true, true, true, true, false, false] rfl rfl (one_of HT_.out (by kernel_rfl)) (by decide) (fun K hK => ?_)
            refine box_step ?hg (N := 8) ?hd (cs := #[.int .u64 0, .int .u64 0]) (t := 89) ?hr ?_; (case hd => rfl); (case hg => rfl); (case hr => first | (go_simp; done) | (go_simp; rfl))
            intro gb320 hg w49 hbox hb
            have BK320 := Aside0.mk (hbox)
            have GW320 := ge HB hg
            have GE320 := ge HB hg
            have NB310_320 := nl BK310 hg
            have NB320_310 := ng NB310_320
            have NB311_320 := nl BK311 hg
            have NB320_311 := ng NB311_320
            have NB315_320 := nl BK315 hg
            have NB320_315 := ng NB315_320
            replace BK310 := bb BK310 hb
            replace BK311 := bb BK311 hb
            replace BK315 := bb BK315 hb
            replace HB := bs HB hb
            clear hb hbox hg
            refine hK.out _ _ ⟨(blk_cell BK315.out 0).trans rfl, (blk_cell BK315.out 1).trans rfl⟩ (fun hHeld => ?_)
            clear hK K
            refine norm_ (a' := ?_) ?_ ?_
            rotate_left
            · show Act.put _ (some 8) _ = _
              simp only [Act.put, List.setIfInBounds_toArray, List.set_cons_zero, List.set_cons_succ, i64_w, i32_w]
              rfl
            exact norm_ (by simp only [putAll, Act.put, List.setIfInBounds_toArray, List.set_cons_zero, List.set_cons_succ]) (hCont (gb320) _ ⟨hHeld, (bq BK310), (bq BK311), (bq BK315), (bq BK320), GW320.out, GE320.out, NB310_320.out, NB320_310.out, NB311_320.out, NB320_311.out, NB315_320.out, NB320_315.out, (hq HB)⟩)
          · skip
            refine box_step ?hg (N := 8) ?hd (cs := #[.int .u64 0, .int .u64 0]) (t := 89) ?hr ?_; (case hd => rfl); (case hg => rfl); (case hr => first | (go_simp; done) | (go_simp; rfl))
            intro gb320 hg w48 hbox hb
            have BK320 := Aside0.mk (hbox)
            have GW320 := ge HB hg
            have GE320 := ge HB hg
            have NB310_320 := nl BK310 hg
            have NB320_310 := ng NB310_320
            have NB311_320 := nl BK311 hg
            have NB320_311 := ng NB311_320
            have NB315_320 := nl BK315 hg
            have NB320_315 := ng NB315_320
            replace BK310 := bb BK310 hb
            replace BK311 := bb BK311 hb
            replace BK315 := bb BK315 hb
            replace HB := bs HB hb
            clear hb hbox hg
            refine hK.out _ _ ⟨(blk_cell BK315.out 0).trans rfl, (blk_cell BK315.out 1).trans rfl⟩ (fun hHeld => ?_)
            clear hK K
            refine norm_ (a' := ?_) ?_ ?_
            rotate_left
            · show Act.put _ (some 8) _ = _
              simp only [Act.put, List.setIfInBounds_toArray, List.set_cons_zero, List.set_cons_succ, i64_w, i32_w]
              rfl
            refine one_ (i := 3) (N := some 21) #[true, true, true, true, false, false, false, true, false, false] rfl rfl (one_of HT_.out (by kernel_rfl)) (by decide) (fun K hK => ?_)
            refine goes_ Try.func67 (by kernel_rfl) rfl #[.agg #[.int .u64 t313, .int .u64 t314], .int .u64 t316] (by rfl) rfl rfl zm ?_
            with_reducible refine (corebankref01_times.calls k t313 t314 t316 t317 t318 true _ A5.out).mono ?_
            rintro e w49 ⟨rfl, hb⟩
            refine ⟨_, rfl, ?_⟩
            replace BK310 := bb BK310 hb
            replace BK311 := bb BK311 hb
            replace BK315 := bb BK315 hb
            replace BK320 := bb BK320 hb
            replace HB := bs HB hb
            (try clear hb)
            (try clear hb2)
            (try clear hk)
            (try clear hi)
            refine hK.out _ _ ⟨(blk_cell BK315.out 0).trans rfl, (blk_cell BK315.out 1).trans rfl⟩ (fun hHeld => ?_)
            clear hK K
            refine norm_ (a' := ?_) ?_ ?_
            rotate_left
            · show Act.put _ (some 21) _ = _
              simp only [Act.put, List.setIfInBounds_toArray, List.set_cons_zero, List.set_cons_succ, i64_w, i32_w]
              rfl
            refine pz (i := 4) (N := some 17) #[true, true, true, true, true, false, false, true, false, false] rfl rfl (any_of HT_.out (by kernel_rfl)) (fun _ _ _ h => h) ?_
            refine pz (i := 5) (N := some 22) #[true, true, true, true, true, true, false, true, false, false] rfl rfl (any_of HT_.out (by kernel_rfl)) (fun _ _ _ h => h) ?_
            refine pz (i := 6) (N := some 23) #[true, true, true, true, true, true, true, true, false, false] rfl rfl (any_of HT_.out (by kernel_rfl)) (fun _ _ _ h => h) ?_
            exact norm_ (by simp only [putAll, Act.put, List.setIfInBounds_toArray, List.set_cons_zero, List.set_cons_succ]) (hCont (gb320) _ ⟨hHeld, (bq BK310), (bq BK311), (bq BK315), (bq BK320), GW320.out, GE320.out, NB310_320.out, NB320_310.out, NB311_320.out, NB320_311.out, NB315_320.out, NB320_315.out, (hq HB)⟩)
        · skip
          refine box_step ?hg (N := 8) ?hd (cs := #[.int .u64 0, .int .u64 0]) (t := 89) ?hr ?_; (case hd => rfl); (case hg => rfl); (case hr => first | (go_simp; done) | (go_simp; rfl))
          intro gb320 hg w48 hbox hb
          have BK320 := Aside0.mk (hbox)
          have GW320 := ge HB hg
          have GE320 := ge HB hg
          have NB310_320 := nl BK310 hg
          have NB320_310 := ng NB310_320
          have NB311_320 := nl BK311 hg
          have NB320_311 := ng NB311_320
          have NB315_320 := nl BK315 hg
          have NB320_315 := ng NB315_320
          replace BK310 := bb BK310 hb
          replace BK311 := bb BK311 hb
          replace BK315 := bb BK315 hb
          replace HB := bs HB hb
          clear hb hbox hg
          refine hK.out _ _ ⟨(blk_cell BK315.out 0).trans rfl, (blk_cell BK315.out 1).trans rfl⟩ (fun hHeld => ?_)
          clear hK K
          refine norm_ (a' := ?_) ?_ ?_
          rotate_left
          · show Act.put _ (some 8) _ = _
            simp only [Act.put, List.setIfInBounds_toArray, List.set_cons_zero, List.set_cons_succ, i64_w, i32_w]
            rfl
          refine one_ (i := 2) (N := some 20) #[true, true, true, false, false, false, false, true, false, false] rfl rfl (one_of HT_.out (by kernel_rfl)) (by decide) (fun K hK => ?_)
          refine goes_ Try.func68 (by kernel_rfl) rfl #[.int .i64 a1] (by rfl) rfl rfl zm ?_
          with_reducible refine (corebankref01_size.calls a1 t316 _ A4.out).mono ?_
          rintro e w' ⟨rfl, ⟨nd, rfl⟩⟩
          refine ⟨_, rfl, ?_⟩
          refine hK.out _ _ ⟨(blk_cell BK315.out 0).trans rfl, (blk_cell BK315.out 1).trans rfl⟩ (fun hHeld => ?_)
          clear hK K
          refine norm_ (a' := ?_) ?_ ?_
          rotate_left
          · show Act.put _ (some 20) _ = _
            simp only [Act.put, List.setIfInBounds_toArray, List.set_cons_zero, List.set_cons_succ, i64_w, i32_w]
            rfl
          refine one_ (i := 3) (N := some 21) #[true, true, true, true, false, false, false, true, false, false] rfl rfl (one_of HT_.out (by kernel_rfl)) (by decide) (fun K hK => ?_)
          refine goes_ Try.func67 (by kernel_rfl) rfl #[.agg #[.int .u64 t313, .int .u64 t314], .int .u64 t316] (by rfl) rfl rfl zm ?_
          with_reducible refine (corebankref01_times.calls k t313 t314 t316 t317 t318 true _ A5.out).mono ?_
          rintro e w49 ⟨rfl, hb⟩
          refine ⟨_, rfl, ?_⟩
          replace BK310 := bb BK310 hb
          replace BK311 := bb BK311 hb
          replace BK315 := bb BK315 hb
          replace BK320 := bb BK320 hb
          replace HB := bs HB hb
          (try clear hb)
          (try clear hb2)
          (try clear hk)
          (try clear hi)
          refine hK.out _ _ ⟨(blk_cell BK315.out 0).trans rfl, (blk_cell BK315.out 1).trans rfl⟩ (fun hHeld => ?_)
          clear hK K
          refine norm_ (a' := ?_) ?_ ?_
          rotate_left
          · show Act.put _ (some 21) _ = _
            simp only [Act.put, List.setIfInBounds_toArray, List.set_cons_zero, List.set_cons_succ, i64_w, i32_w]
            rfl
          refine pz (i := 4) (N := some 17) #[true, true, true, true, true, false, false, true, false, false] rfl rfl (any_of HT_.out (by kernel_rfl)) (fun _ _ _ h => h) ?_
          refine pz (i := 5) (N := some 22) #[true, true, true, true, true, true, false, true, false, false] rfl rfl (any_of HT_.out (by kernel_rfl)) (fun _ _ _ h => h) ?_
          refine pz (i := 6) (N := some 23) #[true, true, true, true, true, true, true, true, false, false] rfl rfl (any_of HT_.out (by kernel_rfl)) (fun _ _ _ h => h) ?_
          exact norm_ (by simp only [putAll, Act.put, List.setIfInBounds_toArray, List.set_cons_zero, List.set_cons_succ]) (hCont (gb320) _ ⟨hHeld, (bq BK310), (bq BK311), (bq BK315), (bq BK320), GW320.out, GE320.out, NB310_320.out, NB320_310.out, NB311_320.out, NB320_311.out, NB315_320.out, NB320_315.out, (hq HB)⟩)
      rintro gb320 w50 ⟨hS_, h0_, h1_, h2_, h3_, h4_, h5_, h6_, h7_, h8_, h9_, h10_, h11_, h12_⟩
      have BK320 : Aside0 (w50.heap[gb320]? = some (.cells #[.int .u64 0, .int .u64 0] 89 (0, 0))) := ⟨h3_⟩
      have GW320 : Aside0 (w.heap.size ≤ gb320) := ⟨h4_⟩
      have GE320 : Aside0 (w.heap.size ≤ gb320) := ⟨h5_⟩
      have NB310_320 : Aside0 (gb310 ≠ gb320) := ⟨h6_⟩
      have NB320_310 : Aside0 (gb320 ≠ gb310) := ⟨h7_⟩
      have NB311_320 : Aside0 (gb311 ≠ gb320) := ⟨h8_⟩
      have NB320_311 : Aside0 (gb320 ≠ gb311) := ⟨h9_⟩
      have NB315_320 : Aside0 (gb315 ≠ gb320) := ⟨h10_⟩
      have NB320_315 : Aside0 (gb320 ≠ gb315) := ⟨h11_⟩
      replace BK310 : Aside0 (w50.heap[gb310]? = some (.cells #[.int .i64 a0_0, .int .u64 a0_1] 35 (0, 0))) := ⟨h0_⟩
      replace BK311 : Aside0 (w50.heap[gb311]? = some (.cells #[.int .i64 0, .int .u64 0] 35 (0, 0))) := ⟨h1_⟩
      replace BK315 : Aside0 (w50.heap[gb315]? = some (.cells #[.int .u64 t313, .int .u64 t314] 89 (0, 0))) := ⟨h2_⟩
      replace HB : Aside0 (Below w.heap.size w w50) := ⟨h12_⟩
      clear h0_ h1_ h2_ h3_ h4_ h5_ h6_ h7_ h8_ h9_ h10_ h11_ h12_
      have hHeld : w50.cell? ⟨gb315, 0, none⟩ = some (.int .u64 t313) ∧ w50.cell? ⟨gb315, 1, none⟩ = some (.int .u64 t314) := hS_
      refine norm_ (a' := ?_) ?_ ?_
      rotate_left
      · simp only [putAll, Act.put, List.setIfInBounds_toArray, List.set_cons_zero, List.set_cons_succ]
        rfl
      refine one_ (i := 8) (N := none) #[true, true, true, true, true, true, true, true, true, false] rfl rfl (one_of HT_.out (by kernel_rfl)) (by decide) (fun K hK => ?_)
      have hs51 : w50.cell? ⟨gb320, 0, none⟩ = some (.int .u64 0) := (blk_cell BK320.out 0).trans rfl
      have hfs51 := blk_frozen BK320.out 0
      have hns51_0 := NB310_320.out
      have hns51_1 := NB311_320.out
      have hns51_2 := NB315_320.out
      have hms51_0 := NB320_310.out
      have hms51_1 := NB320_311.out
      have hms51_2 := NB320_315.out
      have hs52 : w50.cell? ⟨gb320, 1, none⟩ = some (.int .u64 0) := (blk_cell BK320.out 1).trans rfl
      have hfs52 := blk_frozen BK320.out 1
      have hns52_0 := NB310_320.out
      have hns52_1 := NB311_320.out
      have hns52_2 := NB315_320.out
      have hms52_0 := NB320_310.out
      have hms52_1 := NB320_311.out
      have hms52_2 := NB320_315.out
      refine skip_ (w1 := ?_) (by rfl) rfl ?_ ?_
      rotate_left
      · go_simp
        rfl
      refine hK.out _ _ ⟨((cell_far (p := ⟨gb320, _, none⟩) NB315_320.out _).trans (((cell_far (p := ⟨gb320, _, none⟩) NB315_320.out _).trans (hHeld.1)))), ((cell_far (p := ⟨gb320, _, none⟩) NB315_320.out _).trans (((cell_far (p := ⟨gb320, _, none⟩) NB315_320.out _).trans (hHeld.2))))⟩ (fun hHeld => ?_)
      clear hK K
      refine pz (i := 9) (N := some 9) #[true, true, true, true, true, true, true, true, true, true] rfl rfl (any_of HT_.out (by kernel_rfl)) (fun _ _ _ h => h) ?_
      refine done_ (done_of HT_.out (by kernel_rfl)) ?_
      have hnb53 := NB320_310.out
      have hnc53 := NB310_320.out
      have hnb54 := NB320_311.out
      have hnc54 := NB311_320.out
      have hnb55 := NB320_315.out
      have hnc55 := NB315_320.out
      obtain ⟨hcz56_0, hcz56_1, hfz56_0, hfz56_1⟩ := cz2 BK320
      try go_wp2_with (first | ((with_reducible refine gate_callee (f := 69) rfl ?_); refine goesL_ (some 30) rfl rfl Try.func69 (by kernel_rfl) rfl #[.bool (t312 != (decide (a1 < 0))), .agg #[.int .u64 t317, .int .u64 t318]] rfl zm ?_; (with_reducible refine (corebankref01_Join.calls (t312 != (decide (a1 < 0))) t317 t318 t321 t322 false _ A6.out).mono ?_); rintro e w57 ⟨rfl, hb⟩; refine ⟨_, rfl, ?_⟩; replace BK310 := bb BK310 hb; replace BK311 := bb BK311 hb; replace BK315 := bb BK315 hb; replace BK320 := bpb BK320 hb #[.int .u64 t317, .int .u64 t318]; replace HB := bs HB hb; (try clear hb); (try clear hb2); (try clear hk); (try clear hi)) | ((with_reducible refine gate_dst (N := 10) rfl ?_); refine box_event ?hg (N := 10) ?hd (cs := #[.int .i64 0, .int .u64 0]) (t := 35) ?hr ?_; (case hd => rfl); (case hg => rfl); (case hr => first | (go_simp; done) | (go_simp; rfl)); intro gb324 hg w58 hbox hb; have BK324 := Aside0.mk (hbox); have GW324 := ge HB hg; have GE324 := ge HB hg; have NB310_324 := nl BK310 hg; have NB324_310 := ng NB310_324; have NB311_324 := nl BK311 hg; have NB324_311 := ng NB311_324; have NB315_324 := nl BK315 hg; have NB324_315 := ng NB315_324; have NB320_324 := nl BK320 hg; have NB324_320 := ng NB320_324; replace BK310 := bb BK310 hb; replace BK311 := bb BK311 hb; replace BK315 := bb BK315 hb; replace BK320 := bb BK320 hb; replace HB := bs HB hb; clear hb hbox hg; have hnb59 := NB324_310.out; have hnc59 := NB310_324.out; have hnb60 := NB324_311.out; have hnc60 := NB311_324.out; have hnb61 := NB324_315.out; have hnc61 := NB315_324.out; have hnb62 := NB324_320.out; have hnc62 := NB320_324.out; obtain ⟨hcz63_0, hcz63_1, hfz63_0, hfz63_1⟩ := cz2 BK324; obtain ⟨hcz64_0, hcz64_1, hfz64_0, hfz64_1⟩ := cz2 BK311))
      refine bodyPost_ret (results_ct rfl _ _ gb311 35 #[.int .i64 0, .int .u64 0] (0, 0) _ rfl (bp BK311) Try.underlying35 rfl (by kernel_rfl)) rfl ?_
      exact ⟨by first | rfl | (simp [errW_none, errW_some] <;> rfl) | (simp [*, errW_none, errW_some] <;> rfl), hq HB⟩
  · replace c7 := Bool.eq_false_iff.mpr c7
    subst c7
    have H1 : (some (0, 0, 6)) = some (r1, r2, r3) := by rw [if_neg (show ¬ (false = true) by decide)] at H; exact H
    clear H
    have H := H1
    clear H1
    simp only [Option.some.injEq, Prod.mk.injEq] at H
    obtain ⟨rfl, rfl, rfl⟩ := H
    go_enter Try.func46, Try.ntmps46
    try go_wp2_with (first | ((with_reducible refine gate_dst (N := 2) rfl ?_); refine box_event ?hg (N := 2) ?hd (cs := #[.int .i64 a0_0, .int .u64 a0_1]) (t := 35) ?hr ?_; (case hd => rfl); (case hg => rfl); (case hr => first | (go_simp; done) | (go_simp; rfl)); intro gb310 hg w65 hbox hb; have BK310 := Aside0.mk (hbox); have GW310 := ge HB hg; have GE310 := ge HB hg; replace HB := bs HB hb; clear hb hbox hg) | ((with_reducible refine gate_dst (N := 4) rfl ?_); refine box_event ?hg (N := 4) ?hd (cs := #[.int .i64 0, .int .u64 0]) (t := 35) ?hr ?_; (case hd => rfl); (case hg => rfl); (case hr => first | (go_simp; done) | (go_simp; rfl)); intro gb311 hg w66 hbox hb; have BK311 := Aside0.mk (hbox); have GW311 := ge HB hg; have GE311 := ge HB hg; have NB310_311 := nl BK310 hg; have NB311_310 := ng NB310_311; replace BK310 := bb BK310 hb; replace HB := bs HB hb; clear hb hbox hg; have hnb67 := NB310_311.out; have hnc67 := NB311_310.out; obtain ⟨hcz68_0, hcz68_1, hfz68_0, hfz68_1⟩ := cz2 BK310) | ((with_reducible refine gate_callee (f := 48) rfl ?_); refine goesL_ (some 14) rfl rfl Try.func48 (by kernel_rfl) rfl #[.agg #[.int .i64 a0_0, .int .u64 a0_1]] rfl zm ?_; (with_reducible refine (corebankref01_Split.calls a0_0 a0_1 t312 t313 t314 _ A3.out).mono ?_); rintro e w69 ⟨rfl, hb⟩; refine ⟨_, rfl, ?_⟩; replace BK310 := bb BK310 hb; replace BK311 := bb BK311 hb; replace HB := bs HB hb; (try clear hb); (try clear hb2); (try clear hk); (try clear hi)) | ((with_reducible refine gate_dst (N := 7) rfl ?_); refine box_event ?hg (N := 7) ?hd (cs := #[.int .u64 0, .int .u64 0]) (t := 89) ?hr ?_; (case hd => rfl); (case hg => rfl); (case hr => first | (go_simp; done) | (go_simp; rfl)); intro gb315 hg w70 hbox hb; have BK315 := Aside0.mk (hbox); have GW315 := ge HB hg; have GE315 := ge HB hg; have NB310_315 := nl BK310 hg; have NB315_310 := ng NB310_315; have NB311_315 := nl BK311 hg; have NB315_311 := ng NB311_315; replace BK310 := bb BK310 hb; replace BK311 := bb BK311 hb; replace HB := bs HB hb; clear hb hbox hg; have hnb71 := NB315_310.out; have hnc71 := NB310_315.out; have hnb72 := NB315_311.out; have hnc72 := NB311_315.out; obtain ⟨hcz73_0, hcz73_1, hfz73_0, hfz73_1⟩ := cz2 BK315))
    have n0_ : Aside0 (((w70.setCell ⟨gb315, 0, none⟩ (.int .u64 t313)).setCell ⟨gb315, 1, none⟩ (.int .u64 t314)).heap[gb310]? = some (.cells #[.int .i64 a0_0, .int .u64 a0_1] 35 (0, 0))) := ⟨bq BK310⟩
    have n1_ : Aside0 (((w70.setCell ⟨gb315, 0, none⟩ (.int .u64 t313)).setCell ⟨gb315, 1, none⟩ (.int .u64 t314)).heap[gb311]? = some (.cells #[.int .i64 0, .int .u64 0] 35 (0, 0))) := ⟨bq BK311⟩
    have n2_ : Aside0 (((w70.setCell ⟨gb315, 0, none⟩ (.int .u64 t313)).setCell ⟨gb315, 1, none⟩ (.int .u64 t314)).heap[gb315]? = some (.cells #[.int .u64 t313, .int .u64 t314] 89 (0, 0))) := ⟨bp BK315⟩
    have n3_ : Aside0 (Below w.heap.size w ((w70.setCell ⟨gb315, 0, none⟩ (.int .u64 t313)).setCell ⟨gb315, 1, none⟩ (.int .u64 t314))) := ⟨hq HB⟩
    (try clear BK310)
    (try clear BK311)
    (try clear BK315)
    (try clear HB)
    generalize ((w70.setCell ⟨gb315, 0, none⟩ (.int .u64 t313)).setCell ⟨gb315, 1, none⟩ (.int .u64 t314)) = w74 at n0_ n1_ n2_ n3_ ⊢
    have BK310 := n0_
    have BK311 := n1_
    have BK315 := n2_
    have HB := n3_
    clear n0_ n1_ n2_ n3_
    replace BK310 := bd1 BK310
    replace BK311 := bd1 BK311
    replace BK315 := bd1 BK315
    replace HB := hb1 HB
    refine start_ (n := 10) (S := fun w' => w'.cell? ⟨gb315, 0, none⟩ = some (.int .u64 t313) ∧ w'.cell? ⟨gb315, 1, none⟩ = some (.int .u64 t314)) (ds := []) #[false, false, false, false, false, false, false, false, false, false] (by kernel_rfl) rfl rfl ⟨(blk_cell BK315.out 0).trans rfl, (blk_cell BK315.out 1).trans rfl⟩ (fun hHeld => ?_); refine with_tabW corebankref01_Scale.tab2 corebankref01_Scale.bits2 (fun HT_ HW_ => ?_)
    generalize w74.drew = w75 at BK310 BK311 BK315 HB hHeld ⊢
    refine pz (i := 1) (N := some 19) #[false, true, false, false, false, false, false, false, false, false] rfl rfl (any_of HT_.out (by kernel_rfl)) (fun _ _ _ h => h) ?_
    refine tz2 (i := 0) (N := some 18) #[true, true, false, false, false, false, false, false, false, false] rfl rfl (take_ofW HT_.out HW_.out (by kernel_rfl)) (fun _ _ _ h => h) hHeld ?_
    refine join_ (σ := Nat) 2 #[true, true, true, true, true, true, true, true, false, false] (fun s_ => [(20, .int .u64 t316), (21, .tuple #[.agg #[.int .u64 t317, .int .u64 t318], .bool false]), (8, .pointer (some ⟨s_, 0, none⟩)), (17, .tuple #[.agg #[.int .u64 t317, .int .u64 t318], .bool false]), (22, .agg #[.int .u64 t317, .int .u64 t318]), (23, .bool false)]) (fun s_ w' => (w'.cell? ⟨gb315, 0, none⟩ = some (.int .u64 t313) ∧ w'.cell? ⟨gb315, 1, none⟩ = some (.int .u64 t314)) ∧ (w'.heap[gb310]? = some (.cells #[.int .i64 a0_0, .int .u64 a0_1] 35 (0, 0))) ∧ (w'.heap[gb311]? = some (.cells #[.int .i64 0, .int .u64 0] 35 (0, 0))) ∧ (w'.heap[gb315]? = some (.cells #[.int .u64 t313, .int .u64 t314] 89 (0, 0))) ∧ (w'.heap[s_]? = some (.cells #[.int .u64 0, .int .u64 0] 89 (0, 0))) ∧ (w.heap.size ≤ s_) ∧ (w.heap.size ≤ s_) ∧ (gb310 ≠ s_) ∧ (s_ ≠ gb310) ∧ (gb311 ≠ s_) ∧ (s_ ≠ gb311) ∧ (gb315 ≠ s_) ∧ (s_ ≠ gb315) ∧ (Below w.heap.size w w')) ?_ ?_
    rotate_left
    · intro hCont
      refine two_ (i := 2) (j := 7) (Ni := some 20) (Nj := some 8) #[true, true, true, false, false, false, false, false, false, false] #[true, true, false, false, false, false, false, true, false, false] rfl rfl rfl rfl (two_of HT_.out (by kernel_rfl)) (by decide) (by decide) (fun K hK => ?_) (fun K hK => ?_)
      · skip
        refine goes_ Try.func68 (by kernel_rfl) rfl #[.int .i64 a1] (by rfl) rfl rfl zm ?_
        with_reducible refine (corebankref01_size.calls a1 t316 _ A4.out).mono ?_
        rintro e w' ⟨rfl, ⟨nd, rfl⟩⟩
        refine ⟨_, rfl, ?_⟩
        refine hK.out _ _ ⟨(blk_cell BK315.out 0).trans rfl, (blk_cell BK315.out 1).trans rfl⟩ (fun hHeld => ?_)
        clear hK K
        refine norm_ (a' := ?_) ?_ ?_
        rotate_left
        · show Act.put _ (some 20) _ = _
          simp only [Act.put, List.setIfInBounds_toArray, List.set_cons_zero, List.set_cons_succ, i64_w, i32_w]
          rfl
        refine two_ (i := 3) (j := 7) (Ni := some 21) (Nj := some 8) #[true, true, true, true, false, false, false, false, false, false] #[true, true, true, false, false, false, false, true, false, false] rfl rfl rfl rfl (two_of HT_.out (by kernel_rfl)) (by decide) (by decide) (fun K hK => ?_) (fun K hK => ?_)
        · skip
          refine goes_ Try.func67 (by kernel_rfl) rfl #[.agg #[.int .u64 t313, .int .u64 t314], .int .u64 t316] (by rfl) rfl rfl zm ?_
          with_reducible refine (corebankref01_times.calls k t313 t314 t316 t317 t318 false _ A5.out).mono ?_
          rintro e w76 ⟨rfl, hb⟩
          refine ⟨_, rfl, ?_⟩
          replace BK310 := bb BK310 hb
          replace BK311 := bb BK311 hb
          replace BK315 := bb BK315 hb
          replace HB := bs HB hb
          (try clear hb)
          (try clear hb2)
          (try clear hk)
          (try clear hi)
          refine hK.out _ _ ⟨(blk_cell BK315.out 0).trans rfl, (blk_cell BK315.out 1).trans rfl⟩ (fun hHeld => ?_)
          clear hK K
          refine norm_ (a' := ?_) ?_ ?_
          rotate_left
          · show Act.put _ (some 21) _ = _
            simp only [Act.put, List.setIfInBounds_toArray, List.set_cons_zero, List.set_cons_succ, i64_w, i32_w]
            rfl
          refine pz (i := 4) (N := some 17) #[true, true, true, true, true, false, false, false, false, false] rfl rfl (any_of HT_.out (by kernel_rfl)) (fun _ _ _ h => h) ?_
          refine pz (i := 5) (N := some 22) #[true, true, true, true, true, true, false, false, false, false] rfl rfl (any_of HT_.out (by kernel_rfl)) (fun _ _ _ h => h) ?_
          refine pz (i := 6) (N := some 23) #[true, true, true, true, true, true, true, false, false, false] rfl rfl (any_of HT_.out (by kernel_rfl)) (fun _ _ _ h => h) ?_
          refine one_ (i := 7) (N := some 8) #[true, true, true, true, true, true, true, true, false, false] rfl rfl (one_of HT_.out (by kernel_rfl)) (by decide) (fun K hK => ?_)
          refine box_step ?hg (N := 8) ?hd (cs := #[.int .u64 0, .int .u64 0]) (t := 89) ?hr ?_; (case hd => rfl); (case hg => rfl); (case hr => first | (go_simp; done) | (go_simp; rfl))
          intro gb320 hg w77 hbox hb
          have BK320 := Aside0.mk (hbox)
          have GW320 := ge HB hg
          have GE320 := ge HB hg
          have NB310_320 := nl BK310 hg
          have NB320_310 := ng NB310_320
          have NB311_320 := nl BK311 hg
          have NB320_311 := ng NB311_320
          have NB315_320 := nl BK315 hg
          have NB320_315 := ng NB315_320
          replace BK310 := bb BK310 hb
          replace BK311 := bb BK311 hb
          replace BK315 := bb BK315 hb
          replace HB := bs HB hb
          clear hb hbox hg
          refine hK.out _ _ ⟨(blk_cell BK315.out 0).trans rfl, (blk_cell BK315.out 1).trans rfl⟩ (fun hHeld => ?_)
          clear hK K
          refine norm_ (a' := ?_) ?_ ?_
          rotate_left
          · show Act.put _ (some 8) _ = _
            simp only [Act.put, List.setIfInBounds_toArray, List.set_cons_zero, List.set_cons_succ, i64_w, i32_w]
            rfl
          exact norm_ (by simp only [putAll, Act.put, List.setIfInBounds_toArray, List.set_cons_zero, List.set_cons_succ]) (hCont (gb320) _ ⟨hHeld, (bq BK310), (bq BK311), (bq BK315), (bq BK320), GW320.out, GE320.out, NB310_320.out, NB320_310.out, NB311_320.out, NB320_311.out, NB315_320.out, NB320_315.out, (hq HB)⟩)
        · skip
          refine box_step ?hg (N := 8) ?hd (cs := #[.int .u64 0, .int .u64 0]) (t := 89) ?hr ?_; (case hd => rfl); (case hg => rfl); (case hr => first | (go_simp; done) | (go_simp; rfl))
          intro gb320 hg w76 hbox hb
          have BK320 := Aside0.mk (hbox)
          have GW320 := ge HB hg
          have GE320 := ge HB hg
          have NB310_320 := nl BK310 hg
          have NB320_310 := ng NB310_320
          have NB311_320 := nl BK311 hg
          have NB320_311 := ng NB311_320
          have NB315_320 := nl BK315 hg
          have NB320_315 := ng NB315_320
          replace BK310 := bb BK310 hb
          replace BK311 := bb BK311 hb
          replace BK315 := bb BK315 hb
          replace HB := bs HB hb
          clear hb hbox hg
          refine hK.out _ _ ⟨(blk_cell BK315.out 0).trans rfl, (blk_cell BK315.out 1).trans rfl⟩ (fun hHeld => ?_)
          clear hK K
          refine norm_ (a' := ?_) ?_ ?_
          rotate_left
          · show Act.put _ (some 8) _ = _
            simp only [Act.put, List.setIfInBounds_toArray, List.set_cons_zero, List.set_cons_succ, i64_w, i32_w]
            rfl
          refine one_ (i := 3) (N := some 21) #[true, true, true, true, false, false, false, true, false, false] rfl rfl (one_of HT_.out (by kernel_rfl)) (by decide) (fun K hK => ?_)
          refine goes_ Try.func67 (by kernel_rfl) rfl #[.agg #[.int .u64 t313, .int .u64 t314], .int .u64 t316] (by rfl) rfl rfl zm ?_
          with_reducible refine (corebankref01_times.calls k t313 t314 t316 t317 t318 false _ A5.out).mono ?_
          rintro e w77 ⟨rfl, hb⟩
          refine ⟨_, rfl, ?_⟩
          replace BK310 := bb BK310 hb
          replace BK311 := bb BK311 hb
          replace BK315 := bb BK315 hb
          replace BK320 := bb BK320 hb
          replace HB := bs HB hb
          (try clear hb)
          (try clear hb2)
          (try clear hk)
          (try clear hi)
          refine hK.out _ _ ⟨(blk_cell BK315.out 0).trans rfl, (blk_cell BK315.out 1).trans rfl⟩ (fun hHeld => ?_)
          clear hK K
          refine norm_ (a' := ?_) ?_ ?_
          rotate_left
          · show Act.put _ (some 21) _ = _
            simp only [Act.put, List.setIfInBounds_toArray, List.set_cons_zero, List.set_cons_succ, i64_w, i32_w]
            rfl
          refine pz (i := 4) (N := some 17) #[true, true, true, true, true, false, false, true, false, false] rfl rfl (any_of HT_.out (by kernel_rfl)) (fun _ _ _ h => h) ?_
          refine pz (i := 5) (N := some 22) #[true, true, true, true, true, true, false, true, false, false] rfl rfl (any_of HT_.out (by kernel_rfl)) (fun _ _ _ h => h) ?_
          refine pz (i := 6) (N := some 23) #[true, true, true, true, true, true, true, true, false, false] rfl rfl (any_of HT_.out (by kernel_rfl)) (fun _ _ _ h => h) ?_
          exact norm_ (by simp only [putAll, Act.put, List.setIfInBounds_toArray, List.set_cons_zero, List.set_cons_succ]) (hCont (gb320) _ ⟨hHeld, (bq BK310), (bq BK311), (bq BK315), (bq BK320), GW320.out, GE320.out, NB310_320.out, NB320_310.out, NB311_320.out, NB320_311.out, NB315_320.out, NB320_315.out, (hq HB)⟩)
      · skip
        refine box_step ?hg (N := 8) ?hd (cs := #[.int .u64 0, .int .u64 0]) (t := 89) ?hr ?_; (case hd => rfl); (case hg => rfl); (case hr => first | (go_simp; done) | (go_simp; rfl))
        intro gb320 hg w76 hbox hb
        have BK320 := Aside0.mk (hbox)
        have GW320 := ge HB hg
        have GE320 := ge HB hg
        have NB310_320 := nl BK310 hg
        have NB320_310 := ng NB310_320
        have NB311_320 := nl BK311 hg
        have NB320_311 := ng NB311_320
        have NB315_320 := nl BK315 hg
        have NB320_315 := ng NB315_320
        replace BK310 := bb BK310 hb
        replace BK311 := bb BK311 hb
        replace BK315 := bb BK315 hb
        replace HB := bs HB hb
        clear hb hbox hg
        refine hK.out _ _ ⟨(blk_cell BK315.out 0).trans rfl, (blk_cell BK315.out 1).trans rfl⟩ (fun hHeld => ?_)
        clear hK K
        refine norm_ (a' := ?_) ?_ ?_
        rotate_left
        · show Act.put _ (some 8) _ = _
          simp only [Act.put, List.setIfInBounds_toArray, List.set_cons_zero, List.set_cons_succ, i64_w, i32_w]
          rfl
        refine one_ (i := 2) (N := some 20) #[true, true, true, false, false, false, false, true, false, false] rfl rfl (one_of HT_.out (by kernel_rfl)) (by decide) (fun K hK => ?_)
        refine goes_ Try.func68 (by kernel_rfl) rfl #[.int .i64 a1] (by rfl) rfl rfl zm ?_
        with_reducible refine (corebankref01_size.calls a1 t316 _ A4.out).mono ?_
        rintro e w' ⟨rfl, ⟨nd, rfl⟩⟩
        refine ⟨_, rfl, ?_⟩
        refine hK.out _ _ ⟨(blk_cell BK315.out 0).trans rfl, (blk_cell BK315.out 1).trans rfl⟩ (fun hHeld => ?_)
        clear hK K
        refine norm_ (a' := ?_) ?_ ?_
        rotate_left
        · show Act.put _ (some 20) _ = _
          simp only [Act.put, List.setIfInBounds_toArray, List.set_cons_zero, List.set_cons_succ, i64_w, i32_w]
          rfl
        refine one_ (i := 3) (N := some 21) #[true, true, true, true, false, false, false, true, false, false] rfl rfl (one_of HT_.out (by kernel_rfl)) (by decide) (fun K hK => ?_)
        refine goes_ Try.func67 (by kernel_rfl) rfl #[.agg #[.int .u64 t313, .int .u64 t314], .int .u64 t316] (by rfl) rfl rfl zm ?_
        with_reducible refine (corebankref01_times.calls k t313 t314 t316 t317 t318 false _ A5.out).mono ?_
        rintro e w77 ⟨rfl, hb⟩
        refine ⟨_, rfl, ?_⟩
        replace BK310 := bb BK310 hb
        replace BK311 := bb BK311 hb
        replace BK315 := bb BK315 hb
        replace BK320 := bb BK320 hb
        replace HB := bs HB hb
        (try clear hb)
        (try clear hb2)
        (try clear hk)
        (try clear hi)
        refine hK.out _ _ ⟨(blk_cell BK315.out 0).trans rfl, (blk_cell BK315.out 1).trans rfl⟩ (fun hHeld => ?_)
        clear hK K
        refine norm_ (a' := ?_) ?_ ?_
        rotate_left
        · show Act.put _ (some 21) _ = _
          simp only [Act.put, List.setIfInBounds_toArray, List.set_cons_zero, List.set_cons_succ, i64_w, i32_w]
          rfl
        refine pz (i := 4) (N := some 17) #[true, true, true, true, true, false, false, true, false, false] rfl rfl (any_of HT_.out (by kernel_rfl)) (fun _ _ _ h => h) ?_
        refine pz (i := 5) (N := some 22) #[true, true, true, true, true, true, false, true, false, false] rfl rfl (any_of HT_.out (by kernel_rfl)) (fun _ _ _ h => h) ?_
        refine pz (i := 6) (N := some 23) #[true, true, true, true, true, true, true, true, false, false] rfl rfl (any_of HT_.out (by kernel_rfl)) (fun _ _ _ h => h) ?_
        exact norm_ (by simp only [putAll, Act.put, List.setIfInBounds_toArray, List.set_cons_zero, List.set_cons_succ]) (hCont (gb320) _ ⟨hHeld, (bq BK310), (bq BK311), (bq BK315), (bq BK320), GW320.out, GE320.out, NB310_320.out, NB320_310.out, NB311_320.out, NB320_311.out, NB315_320.out, NB320_315.out, (hq HB)⟩)
    rintro gb320 w78 ⟨hS_, h0_, h1_, h2_, h3_, h4_, h5_, h6_, h7_, h8_, h9_, h10_, h11_, h12_⟩
    have BK320 : Aside0 (w78.heap[gb320]? = some (.cells #[.int .u64 0, .int .u64 0] 89 (0, 0))) := ⟨h3_⟩
    have GW320 : Aside0 (w.heap.size ≤ gb320) := ⟨h4_⟩
    have GE320 : Aside0 (w.heap.size ≤ gb320) := ⟨h5_⟩
    have NB310_320 : Aside0 (gb310 ≠ gb320) := ⟨h6_⟩
    have NB320_310 : Aside0 (gb320 ≠ gb310) := ⟨h7_⟩
    have NB311_320 : Aside0 (gb311 ≠ gb320) := ⟨h8_⟩
    have NB320_311 : Aside0 (gb320 ≠ gb311) := ⟨h9_⟩
    have NB315_320 : Aside0 (gb315 ≠ gb320) := ⟨h10_⟩
    have NB320_315 : Aside0 (gb320 ≠ gb315) := ⟨h11_⟩
    replace BK310 : Aside0 (w78.heap[gb310]? = some (.cells #[.int .i64 a0_0, .int .u64 a0_1] 35 (0, 0))) := ⟨h0_⟩
    replace BK311 : Aside0 (w78.heap[gb311]? = some (.cells #[.int .i64 0, .int .u64 0] 35 (0, 0))) := ⟨h1_⟩
    replace BK315 : Aside0 (w78.heap[gb315]? = some (.cells #[.int .u64 t313, .int .u64 t314] 89 (0, 0))) := ⟨h2_⟩
    replace HB : Aside0 (Below w.heap.size w w78) := ⟨h12_⟩
    clear h0_ h1_ h2_ h3_ h4_ h5_ h6_ h7_ h8_ h9_ h10_ h11_ h12_
    have hHeld : w78.cell? ⟨gb315, 0, none⟩ = some (.int .u64 t313) ∧ w78.cell? ⟨gb315, 1, none⟩ = some (.int .u64 t314) := hS_
    refine norm_ (a' := ?_) ?_ ?_
    rotate_left
    · simp only [putAll, Act.put, List.setIfInBounds_toArray, List.set_cons_zero, List.set_cons_succ]
      rfl
    refine one_ (i := 8) (N := none) #[true, true, true, true, true, true, true, true, true, false] rfl rfl (one_of HT_.out (by kernel_rfl)) (by decide) (fun K hK => ?_)
    have hs79 : w78.cell? ⟨gb320, 0, none⟩ = some (.int .u64 0) := (blk_cell BK320.out 0).trans rfl
    have hfs79 := blk_frozen BK320.out 0
    have hns79_0 := NB310_320.out
    have hns79_1 := NB311_320.out
    have hns79_2 := NB315_320.out
    have hms79_0 := NB320_310.out
    have hms79_1 := NB320_311.out
    have hms79_2 := NB320_315.out
    have hs80 : w78.cell? ⟨gb320, 1, none⟩ = some (.int .u64 0) := (blk_cell BK320.out 1).trans rfl
    have hfs80 := blk_frozen BK320.out 1
    have hns80_0 := NB310_320.out
    have hns80_1 := NB311_320.out
    have hns80_2 := NB315_320.out
    have hms80_0 := NB320_310.out
    have hms80_1 := NB320_311.out
    have hms80_2 := NB320_315.out
    refine skip_ (w1 := ?_) (by rfl) rfl ?_ ?_
    rotate_left
    · go_simp
      rfl
    refine hK.out _ _ ⟨((cell_far (p := ⟨gb320, _, none⟩) NB315_320.out _).trans (((cell_far (p := ⟨gb320, _, none⟩) NB315_320.out _).trans (hHeld.1)))), ((cell_far (p := ⟨gb320, _, none⟩) NB315_320.out _).trans (((cell_far (p := ⟨gb320, _, none⟩) NB315_320.out _).trans (hHeld.2))))⟩ (fun hHeld => ?_)
    clear hK K
    refine pz (i := 9) (N := some 9) #[true, true, true, true, true, true, true, true, true, true] rfl rfl (any_of HT_.out (by kernel_rfl)) (fun _ _ _ h => h) ?_
    refine done_ (done_of HT_.out (by kernel_rfl)) ?_
    have hnb81 := NB320_310.out
    have hnc81 := NB310_320.out
    have hnb82 := NB320_311.out
    have hnc82 := NB311_320.out
    have hnb83 := NB320_315.out
    have hnc83 := NB315_320.out
    obtain ⟨hcz84_0, hcz84_1, hfz84_0, hfz84_1⟩ := cz2 BK320
    try go_wp2_with (first | ((with_reducible refine gate_callee (f := 69) rfl ?_); refine goesL_ (some 30) rfl rfl Try.func69 (by kernel_rfl) rfl #[.bool (t312 != (decide (a1 < 0))), .agg #[.int .u64 t317, .int .u64 t318]] rfl zm ?_; (with_reducible refine (corebankref01_Join.calls (t312 != (decide (a1 < 0))) t317 t318 t321 t322 t323 _ A6.out).mono ?_); rintro e w85 ⟨rfl, hb⟩; refine ⟨_, rfl, ?_⟩; replace BK310 := bb BK310 hb; replace BK311 := bb BK311 hb; replace BK315 := bb BK315 hb; replace BK320 := bpb BK320 hb #[.int .u64 t317, .int .u64 t318]; replace HB := bs HB hb; (try clear hb); (try clear hb2); (try clear hk); (try clear hi)) | ((with_reducible refine gate_dst (N := 10) rfl ?_); refine box_event ?hg (N := 10) ?hd (cs := #[.int .i64 0, .int .u64 0]) (t := 35) ?hr ?_; (case hd => rfl); (case hg => rfl); (case hr => first | (go_simp; done) | (go_simp; rfl)); intro gb324 hg w86 hbox hb; have BK324 := Aside0.mk (hbox); have GW324 := ge HB hg; have GE324 := ge HB hg; have NB310_324 := nl BK310 hg; have NB324_310 := ng NB310_324; have NB311_324 := nl BK311 hg; have NB324_311 := ng NB311_324; have NB315_324 := nl BK315 hg; have NB324_315 := ng NB315_324; have NB320_324 := nl BK320 hg; have NB324_320 := ng NB320_324; replace BK310 := bb BK310 hb; replace BK311 := bb BK311 hb; replace BK315 := bb BK315 hb; replace BK320 := bb BK320 hb; replace HB := bs HB hb; clear hb hbox hg; have hnb87 := NB324_310.out; have hnc87 := NB310_324.out; have hnb88 := NB324_311.out; have hnc88 := NB311_324.out; have hnb89 := NB324_315.out; have hnc89 := NB315_324.out; have hnb90 := NB324_320.out; have hnc90 := NB320_324.out; obtain ⟨hcz91_0, hcz91_1, hfz91_0, hfz91_1⟩ := cz2 BK324; obtain ⟨hcz92_0, hcz92_1, hfz92_0, hfz92_1⟩ := cz2 BK311))
    refine bodyPost_ret (results_ct rfl _ _ gb311 35 #[.int .i64 0, .int .u64 0] (0, 0) _ rfl (bp BK311) Try.underlying35 rfl (by kernel_rfl)) rfl ?_
    exact ⟨by first | rfl | (simp [errW_none, errW_some] <;> rfl) | (simp [*, errW_none, errW_some] <;> rfl), hq HB⟩

end Go.Proofs.Ytlmabdiodopidaa.P
