-- laid by wip/tools/pr.sh (a patched printer; Lean checks it)
import Derived.Test.YtlmabdiodopidaaSq
import Derived.Test.YtlmabdiodopidaaPx0
import Derived.Test.YtlmabdiodopidaaPx18
import Derived.Test.YtlmabdiodopidaaPx19
import Derived.Test.YtlmabdiodopidaaLeaf
namespace Go.Proofs.Ytlmabdiodopidaa.P
open Go.Proofs.Ytlmabdiodopidaa.G
attribute [local go_sem high] un_not64 un_noti run_add64
open Go.RowKit Go.Proofs.YtlmabdiodopidaaW.PrintWords Go.Proofs.YtlmabdiodopidaaW.PrintLast Go.Proofs.YtlmabdiodopidaaW.PrintMore
attribute [local go_sem] max2_int min2_int max_two min_two max_three min_three max_four min_four   -- for this text's walks alone
set_option linter.unusedVariables false
set_option linter.unusedSimpArgs false

/-! ### corebankref01_sum: function 49 -/
def corebankref01_sum.f (a0 : Bool) (a1_0 : Int) (a1_1 : Int) (a2 : Bool) (a3_0 : Int) (a3_1 : Int) : Option (Int × Int × Int) := if (a0 == a2) = true then ((corebankref01_plus.f a1_0 a1_1 a3_0 a3_1).bind fun bt263 => ((corebankref01_Join.f a0 bt263.1 bt263.2.1).bind fun bt266 => (if bt263.2.2 = true then (if bt266.2.2 = true then (some (bt266.1, bt266.2.1, 0)) else (some (0, 0, 6))) else (some (0, 0, 6))))) else ((corebankref01_Less.f a1_0 a1_1 a3_0 a3_1).bind fun t270 => (if t270 = true then ((corebankref01_minus.f a3_0 a3_1 a1_0 a1_1).bind fun bt271 => ((corebankref01_Join.f a2 bt271.1 bt271.2).bind fun bt273 => (if bt273.2.2 = true then (some (bt273.1, bt273.2.1, 0)) else (some (0, 0, 6))))) else ((corebankref01_minus.f a1_0 a1_1 a3_0 a3_1).bind fun bt277 => ((corebankref01_Join.f a0 bt277.1 bt277.2).bind fun bt279 => (if bt279.2.2 = true then (some (bt279.1, bt279.2.1, 0)) else (some (0, 0, 6)))))))
set_option maxHeartbeats 8000000 in
set_option maxRecDepth 100000 in
theorem corebankref01_sum.calls (a0 : Bool) (a1_0 : Int) (a1_1 : Int) (a2 : Bool) (a3_0 : Int) (a3_1 : Int) (r1 : Int) (r2 : Int) (r3 : Int) (w : World) (h : corebankref01_sum.f a0 a1_0 a1_1 a2 a3_0 a3_1 = some (r1, r2, r3)) :
    Calls Try.prog 49 #[.bool a0, .agg #[.int .u64 a1_0, .int .u64 a1_1], .bool a2, .agg #[.int .u64 a3_0, .int .u64 a3_1]] w fun e w' => e = .returned (.tuple #[.agg #[.int .i64 r1, .int .u64 r2], .int .i64 r3]) ∧ Below w.heap.size w w' := by
  have hu89 := Try.underlying89
  have hu35 := Try.underlying35
  have HB := Aside0.mk (Below.refl w.heap.size w)
  have H : (if (a0 == a2) = true then ((corebankref01_plus.f a1_0 a1_1 a3_0 a3_1).bind fun bt263 => ((corebankref01_Join.f a0 bt263.1 bt263.2.1).bind fun bt266 => (if bt263.2.2 = true then (if bt266.2.2 = true then (some (bt266.1, bt266.2.1, 0)) else (some (0, 0, 6))) else (some (0, 0, 6))))) else ((corebankref01_Less.f a1_0 a1_1 a3_0 a3_1).bind fun t270 => (if t270 = true then ((corebankref01_minus.f a3_0 a3_1 a1_0 a1_1).bind fun bt271 => ((corebankref01_Join.f a2 bt271.1 bt271.2).bind fun bt273 => (if bt273.2.2 = true then (some (bt273.1, bt273.2.1, 0)) else (some (0, 0, 6))))) else ((corebankref01_minus.f a1_0 a1_1 a3_0 a3_1).bind fun bt277 => ((corebankref01_Join.f a0 bt277.1 bt277.2).bind fun bt279 => (if bt279.2.2 = true then (some (bt279.1, bt279.2.1, 0)) else (some (0, 0, 6)))))))) = some (r1, r2, r3) := h
  clear h
  by_cases c5 : (a0 == a2) = true
  · rw [if_pos c5] at H
    have c5b0 : (a0 == a2) = true := c5
    (try (have c5b1 : decide (a0 = a2) = true := by simpa using c5))
    (try (have c5b2 : (a0 == a2) = true := by simpa using c5))
    clear c5
    replace H := Option.bind_eq_some_iff.mp H
    obtain ⟨⟨t263, t264, t265⟩, A60, H⟩ := H
    replace H : ((corebankref01_Join.f a0 t263 t264).bind fun bt266 => (if t265 = true then (if bt266.2.2 = true then (some (bt266.1, bt266.2.1, 0)) else (some (0, 0, 6))) else (some (0, 0, 6)))) = some (r1, r2, r3) := H
    have A6 := Aside0.mk A60
    clear A60
    replace H := Option.bind_eq_some_iff.mp H
    obtain ⟨⟨t266, t267, t268⟩, A70, H⟩ := H
    replace H : (if t265 = true then (if t268 = true then (some (t266, t267, 0)) else (some (0, 0, 6))) else (some (0, 0, 6))) = some (r1, r2, r3) := H
    have A7 := Aside0.mk A70
    clear A70
    by_cases c8 : t265 = true
    · subst c8
      have H1 : (if t268 = true then (some (t266, t267, 0)) else (some (0, 0, 6))) = some (r1, r2, r3) := by rw [if_pos rfl] at H; exact H
      clear H
      have H := H1
      clear H1
      by_cases c9 : t268 = true
      · subst c9
        have H1 : (some (t266, t267, 0)) = some (r1, r2, r3) := by rw [if_pos rfl] at H; exact H
        clear H
        have H := H1
        clear H1
        simp only [Option.some.injEq, Prod.mk.injEq] at H
        obtain ⟨rfl, rfl, rfl⟩ := H
        go_enter Try.func49, Try.ntmps49
        try go_wp2_with (first | ((with_reducible refine gate_dst (N := 5) rfl ?_); refine box_event ?hg (N := 5) ?hd (cs := #[.int .u64 a1_0, .int .u64 a1_1]) (t := 89) ?hr ?_; (case hd => rfl); (case hg => rfl); (case hr => first | (go_simp; done) | (go_simp; rfl)); intro gb259 hg w10 hbox hb; have BK259 := Aside0.mk (hbox); have GW259 := ge HB hg; have GE259 := ge HB hg; replace HB := bs HB hb; clear hb hbox hg) | ((with_reducible refine gate_dst (N := 7) rfl ?_); refine box_event ?hg (N := 7) ?hd (cs := #[.int .u64 a3_0, .int .u64 a3_1]) (t := 89) ?hr ?_; (case hd => rfl); (case hg => rfl); (case hr => first | (go_simp; done) | (go_simp; rfl)); intro gb260 hg w11 hbox hb; have BK260 := Aside0.mk (hbox); have GW260 := ge HB hg; have GE260 := ge HB hg; have NB259_260 := nl BK259 hg; have NB260_259 := ng NB259_260; replace BK259 := bb BK259 hb; replace HB := bs HB hb; clear hb hbox hg) | ((with_reducible refine gate_dst (N := 8) rfl ?_); refine box_event ?hg (N := 8) ?hd (cs := #[.int .i64 0, .int .u64 0]) (t := 35) ?hr ?_; (case hd => rfl); (case hg => rfl); (case hr => first | (go_simp; done) | (go_simp; rfl)); intro gb261 hg w12 hbox hb; have BK261 := Aside0.mk (hbox); have GW261 := ge HB hg; have GE261 := ge HB hg; have NB259_261 := nl BK259 hg; have NB261_259 := ng NB259_261; have NB260_261 := nl BK260 hg; have NB261_260 := ng NB260_261; replace BK259 := bb BK259 hb; replace BK260 := bb BK260 hb; replace HB := bs HB hb; clear hb hbox hg))
        replace BK259 := bd1 BK259
        replace BK260 := bd1 BK260
        replace BK261 := bd1 BK261
        replace HB := hb1 HB
        refine start_ (n := 6) (S := fun w' => w'.cell? ⟨gb259, 0, none⟩ = some (.int .u64 a1_0) ∧ w'.cell? ⟨gb259, 1, none⟩ = some (.int .u64 a1_1)) (ds := []) #[false, false, false, false, false, false] (by kernel_rfl) rfl rfl ⟨(blk_cell BK259.out 0).trans rfl, (blk_cell BK259.out 1).trans rfl⟩ (fun hHeld => ?_)
        generalize w12.drew = w13 at BK259 BK260 BK261 HB hHeld ⊢
        refine pure_ (i := 0) (N := some 15) (v := ?_) (a' := ?_) #[true, false, false, false, false, false] rfl rfl (by kernel_rfl) (fun _ _ _ h => h) (Or.inl ⟨by rfl, ?_⟩) ?_ ?_
        rotate_left
        · intro w'
          go_simp
          with_reducible rfl
        rotate_left
        · simp only [Act.put, List.setIfInBounds_toArray, List.set_cons_zero, List.set_cons_succ, i64_w, i32_w]
          rfl
        refine take_ (i := 1) (N := some 16) (v := ?_) (a' := ?_) #[true, true, false, false, false, false] rfl rfl (by kernel_rfl) (fun _ _ _ h => h) (Or.inl ⟨by rfl, ?_⟩) hHeld ?_ ?_
        rotate_left
        · rintro w' ⟨s0, s1⟩
          go_simp
          with_reducible rfl
        rotate_left
        · simp only [Act.put, List.setIfInBounds_toArray, List.set_cons_zero, List.set_cons_succ, i64_w, i32_w]
          rfl
        refine one_ (i := 2) (N := some 11) #[true, true, true, false, false, false] rfl rfl (by kernel_rfl) (by decide) (fun K hK => ?_)
        refine box_step ?hg (N := 11) ?hd (cs := #[.int .u64 0, .int .u64 0]) (t := 89) ?hr ?_; (case hd => rfl); (case hg => rfl); (case hr => first | (go_simp; done) | (go_simp; rfl))
        intro gb262 hg w14 hbox hb
        have BK262 := Aside0.mk (hbox)
        have GW262 := ge HB hg
        have GE262 := ge HB hg
        have NB259_262 := nl BK259 hg
        have NB262_259 := ng NB259_262
        have NB260_262 := nl BK260 hg
        have NB262_260 := ng NB260_262
        have NB261_262 := nl BK261 hg
        have NB262_261 := ng NB261_262
        replace BK259 := bb BK259 hb
        replace BK260 := bb BK260 hb
        replace BK261 := bb BK261 hb
        replace HB := bs HB hb
        clear hb hbox hg
        refine hK.out _ _ ⟨(blk_cell BK259.out 0).trans rfl, (blk_cell BK259.out 1).trans rfl⟩ (fun hHeld => ?_)
        clear hK K
        refine norm_ (a' := ?_) ?_ ?_
        rotate_left
        · show Act.put _ (some 11) _ = _
          simp only [Act.put, List.setIfInBounds_toArray, List.set_cons_zero, List.set_cons_succ, i64_w, i32_w]
          rfl
        refine pure_ (i := 3) (N := some 10) (v := ?_) (a' := ?_) #[true, true, true, true, false, false] rfl rfl (by kernel_rfl) (fun _ _ _ h => h) (Or.inl ⟨by rfl, ?_⟩) ?_ ?_
        rotate_left
        · intro w'
          go_simp
          with_reducible rfl
        rotate_left
        · simp only [Act.put, List.setIfInBounds_toArray, List.set_cons_zero, List.set_cons_succ, i64_w, i32_w]
          rfl
        refine one_ (i := 4) (N := none) #[true, true, true, true, true, false] rfl rfl (by kernel_rfl) (by decide) (fun K hK => ?_)
        have hs15 : w14.cell? ⟨gb262, 0, none⟩ = some (.int .u64 0) := (blk_cell BK262.out 0).trans rfl
        have hfs15 := blk_frozen BK262.out 0
        have hns15_0 := NB259_262.out
        have hns15_1 := NB260_262.out
        have hns15_2 := NB261_262.out
        have hms15_0 := NB262_259.out
        have hms15_1 := NB262_260.out
        have hms15_2 := NB262_261.out
        have hs16 : w14.cell? ⟨gb262, 1, none⟩ = some (.int .u64 0) := (blk_cell BK262.out 1).trans rfl
        have hfs16 := blk_frozen BK262.out 1
        have hns16_0 := NB259_262.out
        have hns16_1 := NB260_262.out
        have hns16_2 := NB261_262.out
        have hms16_0 := NB262_259.out
        have hms16_1 := NB262_260.out
        have hms16_2 := NB262_261.out
        refine skip_ (w1 := ?_) (by rfl) rfl ?_ ?_
        rotate_left
        · go_simp
          rfl
        refine hK.out _ _ ⟨((cell_far (p := ⟨gb262, _, none⟩) NB259_262.out _).trans (((cell_far (p := ⟨gb262, _, none⟩) NB259_262.out _).trans (hHeld.1)))), ((cell_far (p := ⟨gb262, _, none⟩) NB259_262.out _).trans (((cell_far (p := ⟨gb262, _, none⟩) NB259_262.out _).trans (hHeld.2))))⟩ (fun hHeld => ?_)
        clear hK K
        refine pure_ (i := 5) (N := some 12) (v := ?_) (a' := ?_) #[true, true, true, true, true, true] rfl rfl (by kernel_rfl) (fun _ _ _ h => h) (Or.inl ⟨by rfl, ?_⟩) ?_ ?_
        rotate_left
        · intro w'
          go_simp
          with_reducible rfl
        rotate_left
        · simp only [Act.put, List.setIfInBounds_toArray, List.set_cons_zero, List.set_cons_succ, i64_w, i32_w]
          rfl
        refine done_ (by kernel_rfl) ?_
        have hnb17 := NB259_260.out
        have hnc17 := NB260_259.out
        have hnb18 := NB259_261.out
        have hnc18 := NB261_259.out
        have hnb19 := NB259_262.out
        have hnc19 := NB262_259.out
        obtain ⟨hcz20_0, hcz20_1, hfz20_0, hfz20_1⟩ := cz2 BK259
        have hnb21 := NB260_261.out
        have hnc21 := NB261_260.out
        have hnb22 := NB260_262.out
        have hnc22 := NB262_260.out
        obtain ⟨hcz23_0, hcz23_1, hfz23_0, hfz23_1⟩ := cz2 BK260
        try go_wp2_with (first | ((with_reducible refine gate_callee (f := 70) rfl ?_); refine goesL_ (some 27) rfl rfl Try.func70 (by kernel_rfl) rfl #[.agg #[.int .u64 a1_0, .int .u64 a1_1], .agg #[.int .u64 a3_0, .int .u64 a3_1]] rfl zm ?_; (with_reducible refine (corebankref01_plus.calls a1_0 a1_1 a3_0 a3_1 t263 t264 true _ A6.out).mono ?_); rintro e w24 ⟨rfl, hb⟩; refine ⟨_, rfl, ?_⟩; replace BK259 := bb BK259 hb; replace BK260 := bb BK260 hb; replace BK261 := bb BK261 hb; replace BK262 := bpb BK262 hb #[.int .u64 a1_0, .int .u64 a1_1]; replace HB := bs HB hb; (try clear hb); (try clear hb2); (try clear hk); (try clear hi); have hnb25 := NB262_261.out; have hnc25 := NB261_262.out; obtain ⟨hcz26_0, hcz26_1, hfz26_0, hfz26_1⟩ := cz2 BK262) | ((with_reducible refine gate_callee (f := 69) rfl ?_); refine goesL_ (some 41) rfl rfl Try.func69 (by kernel_rfl) rfl #[.bool a0, .agg #[.int .u64 t263, .int .u64 t264]] rfl zm ?_; (with_reducible refine (corebankref01_Join.calls a0 t263 t264 t266 t267 true _ A7.out).mono ?_); rintro e w27 ⟨rfl, hb⟩; refine ⟨_, rfl, ?_⟩; replace BK259 := bb BK259 hb; replace BK260 := bb BK260 hb; replace BK261 := bb BK261 hb; replace BK262 := bpb BK262 hb #[.int .u64 t263, .int .u64 t264]; replace HB := bs HB hb; (try clear hb); (try clear hb2); (try clear hk); (try clear hi)) | ((with_reducible refine gate_dst (N := 13) rfl ?_); refine box_event ?hg (N := 13) ?hd (cs := #[.int .i64 0, .int .u64 0]) (t := 35) ?hr ?_; (case hd => rfl); (case hg => rfl); (case hr => first | (go_simp; done) | (go_simp; rfl)); intro gb269 hg w28 hbox hb; have BK269 := Aside0.mk (hbox); have GW269 := ge HB hg; have GE269 := ge HB hg; have NB259_269 := nl BK259 hg; have NB269_259 := ng NB259_269; have NB260_269 := nl BK260 hg; have NB269_260 := ng NB260_269; have NB261_269 := nl BK261 hg; have NB269_261 := ng NB261_269; have NB262_269 := nl BK262 hg; have NB269_262 := ng NB262_269; replace BK259 := bb BK259 hb; replace BK260 := bb BK260 hb; replace BK261 := bb BK261 hb; replace BK262 := bb BK262 hb; replace HB := bs HB hb; clear hb hbox hg; have hnb29 := NB269_259.out; have hnc29 := NB259_269.out; have hnb30 := NB269_260.out; have hnc30 := NB260_269.out; have hnb31 := NB269_261.out; have hnc31 := NB261_269.out; have hnb32 := NB269_262.out; have hnc32 := NB262_269.out; obtain ⟨hcz33_0, hcz33_1, hfz33_0, hfz33_1⟩ := cz2 BK269; obtain ⟨hcz34_0, hcz34_1, hfz34_0, hfz34_1⟩ := cz2 BK261))
        refine bodyPost_ret (results_ct rfl _ _ gb261 35 #[.int .i64 t266, .int .u64 t267] (0, 0) _ rfl (bp BK261) Try.underlying35 rfl (by kernel_rfl)) rfl ?_
        exact ⟨by first | rfl | (simp [errW_none, errW_some] <;> rfl) | (simp [*, errW_none, errW_some] <;> rfl), hq HB⟩
      · replace c9 := Bool.eq_false_iff.mpr c9
        subst c9
        have H1 : (some (0, 0, 6)) = some (r1, r2, r3) := by rw [if_neg (show ¬ (false = true) by decide)] at H; exact H
        clear H
        have H := H1
        clear H1
        simp only [Option.some.injEq, Prod.mk.injEq] at H
        obtain ⟨rfl, rfl, rfl⟩ := H
        go_enter Try.func49, Try.ntmps49
        try go_wp2_with (first | ((with_reducible refine gate_dst (N := 5) rfl ?_); refine box_event ?hg (N := 5) ?hd (cs := #[.int .u64 a1_0, .int .u64 a1_1]) (t := 89) ?hr ?_; (case hd => rfl); (case hg => rfl); (case hr => first | (go_simp; done) | (go_simp; rfl)); intro gb259 hg w35 hbox hb; have BK259 := Aside0.mk (hbox); have GW259 := ge HB hg; have GE259 := ge HB hg; replace HB := bs HB hb; clear hb hbox hg) | ((with_reducible refine gate_dst (N := 7) rfl ?_); refine box_event ?hg (N := 7) ?hd (cs := #[.int .u64 a3_0, .int .u64 a3_1]) (t := 89) ?hr ?_; (case hd => rfl); (case hg => rfl); (case hr => first | (go_simp; done) | (go_simp; rfl)); intro gb260 hg w36 hbox hb; have BK260 := Aside0.mk (hbox); have GW260 := ge HB hg; have GE260 := ge HB hg; have NB259_260 := nl BK259 hg; have NB260_259 := ng NB259_260; replace BK259 := bb BK259 hb; replace HB := bs HB hb; clear hb hbox hg) | ((with_reducible refine gate_dst (N := 8) rfl ?_); refine box_event ?hg (N := 8) ?hd (cs := #[.int .i64 0, .int .u64 0]) (t := 35) ?hr ?_; (case hd => rfl); (case hg => rfl); (case hr => first | (go_simp; done) | (go_simp; rfl)); intro gb261 hg w37 hbox hb; have BK261 := Aside0.mk (hbox); have GW261 := ge HB hg; have GE261 := ge HB hg; have NB259_261 := nl BK259 hg; have NB261_259 := ng NB259_261; have NB260_261 := nl BK260 hg; have NB261_260 := ng NB260_261; replace BK259 := bb BK259 hb; replace BK260 := bb BK260 hb; replace HB := bs HB hb; clear hb hbox hg))
        replace BK259 := bd1 BK259
        replace BK260 := bd1 BK260
        replace BK261 := bd1 BK261
        replace HB := hb1 HB
        refine start_ (n := 6) (S := fun w' => w'.cell? ⟨gb259, 0, none⟩ = some (.int .u64 a1_0) ∧ w'.cell? ⟨gb259, 1, none⟩ = some (.int .u64 a1_1)) (ds := []) #[false, false, false, false, false, false] (by kernel_rfl) rfl rfl ⟨(blk_cell BK259.out 0).trans rfl, (blk_cell BK259.out 1).trans rfl⟩ (fun hHeld => ?_)
        generalize w37.drew = w38 at BK259 BK260 BK261 HB hHeld ⊢
        refine pure_ (i := 0) (N := some 15) (v := ?_) (a' := ?_) #[true, false, false, false, false, false] rfl rfl (by kernel_rfl) (fun _ _ _ h => h) (Or.inl ⟨by rfl, ?_⟩) ?_ ?_
        rotate_left
        · intro w'
          go_simp
          with_reducible rfl
        rotate_left
        · simp only [Act.put, List.setIfInBounds_toArray, List.set_cons_zero, List.set_cons_succ, i64_w, i32_w]
          rfl
        refine take_ (i := 1) (N := some 16) (v := ?_) (a' := ?_) #[true, true, false, false, false, false] rfl rfl (by kernel_rfl) (fun _ _ _ h => h) (Or.inl ⟨by rfl, ?_⟩) hHeld ?_ ?_
        rotate_left
        · rintro w' ⟨s0, s1⟩
          go_simp
          with_reducible rfl
        rotate_left
        · simp only [Act.put, List.setIfInBounds_toArray, List.set_cons_zero, List.set_cons_succ, i64_w, i32_w]
          rfl
        refine one_ (i := 2) (N := some 11) #[true, true, true, false, false, false] rfl rfl (by kernel_rfl) (by decide) (fun K hK => ?_)
        refine box_step ?hg (N := 11) ?hd (cs := #[.int .u64 0, .int .u64 0]) (t := 89) ?hr ?_; (case hd => rfl); (case hg => rfl); (case hr => first | (go_simp; done) | (go_simp; rfl))
        intro gb262 hg w39 hbox hb
        have BK262 := Aside0.mk (hbox)
        have GW262 := ge HB hg
        have GE262 := ge HB hg
        have NB259_262 := nl BK259 hg
        have NB262_259 := ng NB259_262
        have NB260_262 := nl BK260 hg
        have NB262_260 := ng NB260_262
        have NB261_262 := nl BK261 hg
        have NB262_261 := ng NB261_262
        replace BK259 := bb BK259 hb
        replace BK260 := bb BK260 hb
        replace BK261 := bb BK261 hb
        replace HB := bs HB hb
        clear hb hbox hg
        refine hK.out _ _ ⟨(blk_cell BK259.out 0).trans rfl, (blk_cell BK259.out 1).trans rfl⟩ (fun hHeld => ?_)
        clear hK K
        refine norm_ (a' := ?_) ?_ ?_
        rotate_left
        · show Act.put _ (some 11) _ = _
          simp only [Act.put, List.setIfInBounds_toArray, List.set_cons_zero, List.set_cons_succ, i64_w, i32_w]
          rfl
        refine pure_ (i := 3) (N := some 10) (v := ?_) (a' := ?_) #[true, true, true, true, false, false] rfl rfl (by kernel_rfl) (fun _ _ _ h => h) (Or.inl ⟨by rfl, ?_⟩) ?_ ?_
        rotate_left
        · intro w'
          go_simp
          with_reducible rfl
        rotate_left
        · simp only [Act.put, List.setIfInBounds_toArray, List.set_cons_zero, List.set_cons_succ, i64_w, i32_w]
          rfl
        refine one_ (i := 4) (N := none) #[true, true, true, true, true, false] rfl rfl (by kernel_rfl) (by decide) (fun K hK => ?_)
        have hs40 : w39.cell? ⟨gb262, 0, none⟩ = some (.int .u64 0) := (blk_cell BK262.out 0).trans rfl
        have hfs40 := blk_frozen BK262.out 0
        have hns40_0 := NB259_262.out
        have hns40_1 := NB260_262.out
        have hns40_2 := NB261_262.out
        have hms40_0 := NB262_259.out
        have hms40_1 := NB262_260.out
        have hms40_2 := NB262_261.out
        have hs41 : w39.cell? ⟨gb262, 1, none⟩ = some (.int .u64 0) := (blk_cell BK262.out 1).trans rfl
        have hfs41 := blk_frozen BK262.out 1
        have hns41_0 := NB259_262.out
        have hns41_1 := NB260_262.out
        have hns41_2 := NB261_262.out
        have hms41_0 := NB262_259.out
        have hms41_1 := NB262_260.out
        have hms41_2 := NB262_261.out
        refine skip_ (w1 := ?_) (by rfl) rfl ?_ ?_
        rotate_left
        · go_simp
          rfl
        refine hK.out _ _ ⟨((cell_far (p := ⟨gb262, _, none⟩) NB259_262.out _).trans (((cell_far (p := ⟨gb262, _, none⟩) NB259_262.out _).trans (hHeld.1)))), ((cell_far (p := ⟨gb262, _, none⟩) NB259_262.out _).trans (((cell_far (p := ⟨gb262, _, none⟩) NB259_262.out _).trans (hHeld.2))))⟩ (fun hHeld => ?_)
        clear hK K
        refine pure_ (i := 5) (N := some 12) (v := ?_) (a' := ?_) #[true, true, true, true, true, true] rfl rfl (by kernel_rfl) (fun _ _ _ h => h) (Or.inl ⟨by rfl, ?_⟩) ?_ ?_
        rotate_left
        · intro w'
          go_simp
          with_reducible rfl
        rotate_left
        · simp only [Act.put, List.setIfInBounds_toArray, List.set_cons_zero, List.set_cons_succ, i64_w, i32_w]
          rfl
        refine done_ (by kernel_rfl) ?_
        have hnb42 := NB259_260.out
        have hnc42 := NB260_259.out
        have hnb43 := NB259_261.out
        have hnc43 := NB261_259.out
        have hnb44 := NB259_262.out
        have hnc44 := NB262_259.out
        obtain ⟨hcz45_0, hcz45_1, hfz45_0, hfz45_1⟩ := cz2 BK259
        have hnb46 := NB260_261.out
        have hnc46 := NB261_260.out
        have hnb47 := NB260_262.out
        have hnc47 := NB262_260.out
        obtain ⟨hcz48_0, hcz48_1, hfz48_0, hfz48_1⟩ := cz2 BK260
        try go_wp2_with (first | ((with_reducible refine gate_callee (f := 70) rfl ?_); refine goesL_ (some 27) rfl rfl Try.func70 (by kernel_rfl) rfl #[.agg #[.int .u64 a1_0, .int .u64 a1_1], .agg #[.int .u64 a3_0, .int .u64 a3_1]] rfl zm ?_; (with_reducible refine (corebankref01_plus.calls a1_0 a1_1 a3_0 a3_1 t263 t264 true _ A6.out).mono ?_); rintro e w49 ⟨rfl, hb⟩; refine ⟨_, rfl, ?_⟩; replace BK259 := bb BK259 hb; replace BK260 := bb BK260 hb; replace BK261 := bb BK261 hb; replace BK262 := bpb BK262 hb #[.int .u64 a1_0, .int .u64 a1_1]; replace HB := bs HB hb; (try clear hb); (try clear hb2); (try clear hk); (try clear hi); have hnb50 := NB262_261.out; have hnc50 := NB261_262.out; obtain ⟨hcz51_0, hcz51_1, hfz51_0, hfz51_1⟩ := cz2 BK262) | ((with_reducible refine gate_callee (f := 69) rfl ?_); refine goesL_ (some 41) rfl rfl Try.func69 (by kernel_rfl) rfl #[.bool a0, .agg #[.int .u64 t263, .int .u64 t264]] rfl zm ?_; (with_reducible refine (corebankref01_Join.calls a0 t263 t264 t266 t267 false _ A7.out).mono ?_); rintro e w52 ⟨rfl, hb⟩; refine ⟨_, rfl, ?_⟩; replace BK259 := bb BK259 hb; replace BK260 := bb BK260 hb; replace BK261 := bb BK261 hb; replace BK262 := bpb BK262 hb #[.int .u64 t263, .int .u64 t264]; replace HB := bs HB hb; (try clear hb); (try clear hb2); (try clear hk); (try clear hi)) | ((with_reducible refine gate_dst (N := 13) rfl ?_); refine box_event ?hg (N := 13) ?hd (cs := #[.int .i64 0, .int .u64 0]) (t := 35) ?hr ?_; (case hd => rfl); (case hg => rfl); (case hr => first | (go_simp; done) | (go_simp; rfl)); intro gb269 hg w53 hbox hb; have BK269 := Aside0.mk (hbox); have GW269 := ge HB hg; have GE269 := ge HB hg; have NB259_269 := nl BK259 hg; have NB269_259 := ng NB259_269; have NB260_269 := nl BK260 hg; have NB269_260 := ng NB260_269; have NB261_269 := nl BK261 hg; have NB269_261 := ng NB261_269; have NB262_269 := nl BK262 hg; have NB269_262 := ng NB262_269; replace BK259 := bb BK259 hb; replace BK260 := bb BK260 hb; replace BK261 := bb BK261 hb; replace BK262 := bb BK262 hb; replace HB := bs HB hb; clear hb hbox hg; have hnb54 := NB269_259.out; have hnc54 := NB259_269.out; have hnb55 := NB269_260.out; have hnc55 := NB260_269.out; have hnb56 := NB269_261.out; have hnc56 := NB261_269.out; have hnb57 := NB269_262.out; have hnc57 := NB262_269.out; obtain ⟨hcz58_0, hcz58_1, hfz58_0, hfz58_1⟩ := cz2 BK269; obtain ⟨hcz59_0, hcz59_1, hfz59_0, hfz59_1⟩ := cz2 BK261))
        refine bodyPost_ret (results_ct rfl _ _ gb261 35 #[.int .i64 0, .int .u64 0] (0, 0) _ rfl (bp BK261) Try.underlying35 rfl (by kernel_rfl)) rfl ?_
        exact ⟨by first | rfl | (simp [errW_none, errW_some] <;> rfl) | (simp [*, errW_none, errW_some] <;> rfl), hq HB⟩
    · replace c8 := Bool.eq_false_iff.mpr c8
      subst c8
      have H1 : (some (0, 0, 6)) = some (r1, r2, r3) := by rw [if_neg (show ¬ (false = true) by decide)] at H; exact H
      clear H
      have H := H1
      clear H1
      simp only [Option.some.injEq, Prod.mk.injEq] at H
      obtain ⟨rfl, rfl, rfl⟩ := H
      go_enter Try.func49, Try.ntmps49
      try go_wp2_with (first | ((with_reducible refine gate_dst (N := 5) rfl ?_); refine box_event ?hg (N := 5) ?hd (cs := #[.int .u64 a1_0, .int .u64 a1_1]) (t := 89) ?hr ?_; (case hd => rfl); (case hg => rfl); (case hr => first | (go_simp; done) | (go_simp; rfl)); intro gb259 hg w60 hbox hb; have BK259 := Aside0.mk (hbox); have GW259 := ge HB hg; have GE259 := ge HB hg; replace HB := bs HB hb; clear hb hbox hg) | ((with_reducible refine gate_dst (N := 7) rfl ?_); refine box_event ?hg (N := 7) ?hd (cs := #[.int .u64 a3_0, .int .u64 a3_1]) (t := 89) ?hr ?_; (case hd => rfl); (case hg => rfl); (case hr => first | (go_simp; done) | (go_simp; rfl)); intro gb260 hg w61 hbox hb; have BK260 := Aside0.mk (hbox); have GW260 := ge HB hg; have GE260 := ge HB hg; have NB259_260 := nl BK259 hg; have NB260_259 := ng NB259_260; replace BK259 := bb BK259 hb; replace HB := bs HB hb; clear hb hbox hg) | ((with_reducible refine gate_dst (N := 8) rfl ?_); refine box_event ?hg (N := 8) ?hd (cs := #[.int .i64 0, .int .u64 0]) (t := 35) ?hr ?_; (case hd => rfl); (case hg => rfl); (case hr => first | (go_simp; done) | (go_simp; rfl)); intro gb261 hg w62 hbox hb; have BK261 := Aside0.mk (hbox); have GW261 := ge HB hg; have GE261 := ge HB hg; have NB259_261 := nl BK259 hg; have NB261_259 := ng NB259_261; have NB260_261 := nl BK260 hg; have NB261_260 := ng NB260_261; replace BK259 := bb BK259 hb; replace BK260 := bb BK260 hb; replace HB := bs HB hb; clear hb hbox hg))
      replace BK259 := bd1 BK259
      replace BK260 := bd1 BK260
      replace BK261 := bd1 BK261
      replace HB := hb1 HB
      refine start_ (n := 6) (S := fun w' => w'.cell? ⟨gb259, 0, none⟩ = some (.int .u64 a1_0) ∧ w'.cell? ⟨gb259, 1, none⟩ = some (.int .u64 a1_1)) (ds := []) #[false, false, false, false, false, false] (by kernel_rfl) rfl rfl ⟨(blk_cell BK259.out 0).trans rfl, (blk_cell BK259.out 1).trans rfl⟩ (fun hHeld => ?_)
      generalize w62.drew = w63 at BK259 BK260 BK261 HB hHeld ⊢
      refine pure_ (i := 0) (N := some 15) (v := ?_) (a' := ?_) #[true, false, false, false, false, false] rfl rfl (by kernel_rfl) (fun _ _ _ h => h) (Or.inl ⟨by rfl, ?_⟩) ?_ ?_
      rotate_left
      · intro w'
        go_simp
        with_reducible rfl
      rotate_left
      · simp only [Act.put, List.setIfInBounds_toArray, List.set_cons_zero, List.set_cons_succ, i64_w, i32_w]
        rfl
      refine take_ (i := 1) (N := some 16) (v := ?_) (a' := ?_) #[true, true, false, false, false, false] rfl rfl (by kernel_rfl) (fun _ _ _ h => h) (Or.inl ⟨by rfl, ?_⟩) hHeld ?_ ?_
      rotate_left
      · rintro w' ⟨s0, s1⟩
        go_simp
        with_reducible rfl
      rotate_left
      · simp only [Act.put, List.setIfInBounds_toArray, List.set_cons_zero, List.set_cons_succ, i64_w, i32_w]
        rfl
      refine one_ (i := 2) (N := some 11) #[true, true, true, false, false, false] rfl rfl (by kernel_rfl) (by decide) (fun K hK => ?_)
      refine box_step ?hg (N := 11) ?hd (cs := #[.int .u64 0, .int .u64 0]) (t := 89) ?hr ?_; (case hd => rfl); (case hg => rfl); (case hr => first | (go_simp; done) | (go_simp; rfl))
      intro gb262 hg w64 hbox hb
      have BK262 := Aside0.mk (hbox)
      have GW262 := ge HB hg
      have GE262 := ge HB hg
      have NB259_262 := nl BK259 hg
      have NB262_259 := ng NB259_262
      have NB260_262 := nl BK260 hg
      have NB262_260 := ng NB260_262
      have NB261_262 := nl BK261 hg
      have NB262_261 := ng NB261_262
      replace BK259 := bb BK259 hb
      replace BK260 := bb BK260 hb
      replace BK261 := bb BK261 hb
      replace HB := bs HB hb
      clear hb hbox hg
      refine hK.out _ _ ⟨(blk_cell BK259.out 0).trans rfl, (blk_cell BK259.out 1).trans rfl⟩ (fun hHeld => ?_)
      clear hK K
      refine norm_ (a' := ?_) ?_ ?_
      rotate_left
      · show Act.put _ (some 11) _ = _
        simp only [Act.put, List.setIfInBounds_toArray, List.set_cons_zero, List.set_cons_succ, i64_w, i32_w]
        rfl
      refine pure_ (i := 3) (N := some 10) (v := ?_) (a' := ?_) #[true, true, true, true, false, false] rfl rfl (by kernel_rfl) (fun _ _ _ h => h) (Or.inl ⟨by rfl, ?_⟩) ?_ ?_
      rotate_left
      · intro w'
        go_simp
        with_reducible rfl
      rotate_left
      · simp only [Act.put, List.setIfInBounds_toArray, List.set_cons_zero, List.set_cons_succ, i64_w, i32_w]
        rfl
      refine one_ (i := 4) (N := none) #[true, true, true, true, true, false] rfl rfl (by kernel_rfl) (by decide) (fun K hK => ?_)
      have hs65 : w64.cell? ⟨gb262, 0, none⟩ = some (.int .u64 0) := (blk_cell BK262.out 0).trans rfl
      have hfs65 := blk_frozen BK262.out 0
      have hns65_0 := NB259_262.out
      have hns65_1 := NB260_262.out
      have hns65_2 := NB261_262.out
      have hms65_0 := NB262_259.out
      have hms65_1 := NB262_260.out
      have hms65_2 := NB262_261.out
      have hs66 : w64.cell? ⟨gb262, 1, none⟩ = some (.int .u64 0) := (blk_cell BK262.out 1).trans rfl
      have hfs66 := blk_frozen BK262.out 1
      have hns66_0 := NB259_262.out
      have hns66_1 := NB260_262.out
      have hns66_2 := NB261_262.out
      have hms66_0 := NB262_259.out
      have hms66_1 := NB262_260.out
      have hms66_2 := NB262_261.out
      refine skip_ (w1 := ?_) (by rfl) rfl ?_ ?_
      rotate_left
      · go_simp
        rfl
      refine hK.out _ _ ⟨((cell_far (p := ⟨gb262, _, none⟩) NB259_262.out _).trans (((cell_far (p := ⟨gb262, _, none⟩) NB259_262.out _).trans (hHeld.1)))), ((cell_far (p := ⟨gb262, _, none⟩) NB259_262.out _).trans (((cell_far (p := ⟨gb262, _, none⟩) NB259_262.out _).trans (hHeld.2))))⟩ (fun hHeld => ?_)
      clear hK K
      refine pure_ (i := 5) (N := some 12) (v := ?_) (a' := ?_) #[true, true, true, true, true, true] rfl rfl (by kernel_rfl) (fun _ _ _ h => h) (Or.inl ⟨by rfl, ?_⟩) ?_ ?_
      rotate_left
      · intro w'
        go_simp
        with_reducible rfl
      rotate_left
      · simp only [Act.put, List.setIfInBounds_toArray, List.set_cons_zero, List.set_cons_succ, i64_w, i32_w]
        rfl
      refine done_ (by kernel_rfl) ?_
      have hnb67 := NB259_260.out
      have hnc67 := NB260_259.out
      have hnb68 := NB259_261.out
      have hnc68 := NB261_259.out
      have hnb69 := NB259_262.out
      have hnc69 := NB262_259.out
      obtain ⟨hcz70_0, hcz70_1, hfz70_0, hfz70_1⟩ := cz2 BK259
      have hnb71 := NB260_261.out
      have hnc71 := NB261_260.out
      have hnb72 := NB260_262.out
      have hnc72 := NB262_260.out
      obtain ⟨hcz73_0, hcz73_1, hfz73_0, hfz73_1⟩ := cz2 BK260
      try go_wp2_with (first | ((with_reducible refine gate_callee (f := 70) rfl ?_); refine goesL_ (some 27) rfl rfl Try.func70 (by kernel_rfl) rfl #[.agg #[.int .u64 a1_0, .int .u64 a1_1], .agg #[.int .u64 a3_0, .int .u64 a3_1]] rfl zm ?_; (with_reducible refine (corebankref01_plus.calls a1_0 a1_1 a3_0 a3_1 t263 t264 false _ A6.out).mono ?_); rintro e w74 ⟨rfl, hb⟩; refine ⟨_, rfl, ?_⟩; replace BK259 := bb BK259 hb; replace BK260 := bb BK260 hb; replace BK261 := bb BK261 hb; replace BK262 := bpb BK262 hb #[.int .u64 a1_0, .int .u64 a1_1]; replace HB := bs HB hb; (try clear hb); (try clear hb2); (try clear hk); (try clear hi); have hnb75 := NB262_261.out; have hnc75 := NB261_262.out; obtain ⟨hcz76_0, hcz76_1, hfz76_0, hfz76_1⟩ := cz2 BK262) | ((with_reducible refine gate_callee (f := 69) rfl ?_); refine goesL_ (some 41) rfl rfl Try.func69 (by kernel_rfl) rfl #[.bool a0, .agg #[.int .u64 t263, .int .u64 t264]] rfl zm ?_; (with_reducible refine (corebankref01_Join.calls a0 t263 t264 t266 t267 t268 _ A7.out).mono ?_); rintro e w77 ⟨rfl, hb⟩; refine ⟨_, rfl, ?_⟩; replace BK259 := bb BK259 hb; replace BK260 := bb BK260 hb; replace BK261 := bb BK261 hb; replace BK262 := bpb BK262 hb #[.int .u64 t263, .int .u64 t264]; replace HB := bs HB hb; (try clear hb); (try clear hb2); (try clear hk); (try clear hi)) | ((with_reducible refine gate_dst (N := 13) rfl ?_); refine box_event ?hg (N := 13) ?hd (cs := #[.int .i64 0, .int .u64 0]) (t := 35) ?hr ?_; (case hd => rfl); (case hg => rfl); (case hr => first | (go_simp; done) | (go_simp; rfl)); intro gb269 hg w78 hbox hb; have BK269 := Aside0.mk (hbox); have GW269 := ge HB hg; have GE269 := ge HB hg; have NB259_269 := nl BK259 hg; have NB269_259 := ng NB259_269; have NB260_269 := nl BK260 hg; have NB269_260 := ng NB260_269; have NB261_269 := nl BK261 hg; have NB269_261 := ng NB261_269; have NB262_269 := nl BK262 hg; have NB269_262 := ng NB262_269; replace BK259 := bb BK259 hb; replace BK260 := bb BK260 hb; replace BK261 := bb BK261 hb; replace BK262 := bb BK262 hb; replace HB := bs HB hb; clear hb hbox hg; have hnb79 := NB269_259.out; have hnc79 := NB259_269.out; have hnb80 := NB269_260.out; have hnc80 := NB260_269.out; have hnb81 := NB269_261.out; have hnc81 := NB261_269.out; have hnb82 := NB269_262.out; have hnc82 := NB262_269.out; obtain ⟨hcz83_0, hcz83_1, hfz83_0, hfz83_1⟩ := cz2 BK269; obtain ⟨hcz84_0, hcz84_1, hfz84_0, hfz84_1⟩ := cz2 BK261))
      refine bodyPost_ret (results_ct rfl _ _ gb261 35 #[.int .i64 0, .int .u64 0] (0, 0) _ rfl (bp BK261) Try.underlying35 rfl (by kernel_rfl)) rfl ?_
      exact ⟨by first | rfl | (simp [errW_none, errW_some] <;> rfl) | (simp [*, errW_none, errW_some] <;> rfl), hq HB⟩
  · rw [if_neg c5] at H
    have c5b0 : (a0 == a2) = false := by simpa using c5
    (try (have c5b1 : decide (a0 = a2) = false := by simpa using c5))
    (try (have c5b2 : (a0 == a2) = false := by simpa using c5))
    (try (have c5b3 : ¬ (a0 = a2) := by simpa using c5))
    clear c5
    replace H := Option.bind_eq_some_iff.mp H
    obtain ⟨t270, A850, H⟩ := H
    replace H : (if t270 = true then ((corebankref01_minus.f a3_0 a3_1 a1_0 a1_1).bind fun bt271 => ((corebankref01_Join.f a2 bt271.1 bt271.2).bind fun bt273 => (if bt273.2.2 = true then (some (bt273.1, bt273.2.1, 0)) else (some (0, 0, 6))))) else ((corebankref01_minus.f a1_0 a1_1 a3_0 a3_1).bind fun bt277 => ((corebankref01_Join.f a0 bt277.1 bt277.2).bind fun bt279 => (if bt279.2.2 = true then (some (bt279.1, bt279.2.1, 0)) else (some (0, 0, 6)))))) = some (r1, r2, r3) := H
    have A85 := Aside0.mk A850
    clear A850
    by_cases c86 : t270 = true
    · subst c86
      have H1 : ((corebankref01_minus.f a3_0 a3_1 a1_0 a1_1).bind fun bt271 => ((corebankref01_Join.f a2 bt271.1 bt271.2).bind fun bt273 => (if bt273.2.2 = true then (some (bt273.1, bt273.2.1, 0)) else (some (0, 0, 6))))) = some (r1, r2, r3) := by rw [if_pos rfl] at H; exact H
      clear H
      have H := H1
      clear H1
      replace H := Option.bind_eq_some_iff.mp H
      obtain ⟨⟨t271, t272⟩, A870, H⟩ := H
      replace H : ((corebankref01_Join.f a2 t271 t272).bind fun bt273 => (if bt273.2.2 = true then (some (bt273.1, bt273.2.1, 0)) else (some (0, 0, 6)))) = some (r1, r2, r3) := H
      have A87 := Aside0.mk A870
      clear A870
      replace H := Option.bind_eq_some_iff.mp H
      obtain ⟨⟨t273, t274, t275⟩, A880, H⟩ := H
      replace H : (if t275 = true then (some (t273, t274, 0)) else (some (0, 0, 6))) = some (r1, r2, r3) := H
      have A88 := Aside0.mk A880
      clear A880
      by_cases c89 : t275 = true
      · subst c89
        have H1 : (some (t273, t274, 0)) = some (r1, r2, r3) := by rw [if_pos rfl] at H; exact H
        clear H
        have H := H1
        clear H1
        simp only [Option.some.injEq, Prod.mk.injEq] at H
        obtain ⟨rfl, rfl, rfl⟩ := H
        go_enter Try.func49, Try.ntmps49
        try go_wp2_with (first | ((with_reducible refine gate_dst (N := 5) rfl ?_); refine box_event ?hg (N := 5) ?hd (cs := #[.int .u64 a1_0, .int .u64 a1_1]) (t := 89) ?hr ?_; (case hd => rfl); (case hg => rfl); (case hr => first | (go_simp; done) | (go_simp; rfl)); intro gb259 hg w90 hbox hb; have BK259 := Aside0.mk (hbox); have GW259 := ge HB hg; have GE259 := ge HB hg; replace HB := bs HB hb; clear hb hbox hg) | ((with_reducible refine gate_dst (N := 7) rfl ?_); refine box_event ?hg (N := 7) ?hd (cs := #[.int .u64 a3_0, .int .u64 a3_1]) (t := 89) ?hr ?_; (case hd => rfl); (case hg => rfl); (case hr => first | (go_simp; done) | (go_simp; rfl)); intro gb260 hg w91 hbox hb; have BK260 := Aside0.mk (hbox); have GW260 := ge HB hg; have GE260 := ge HB hg; have NB259_260 := nl BK259 hg; have NB260_259 := ng NB259_260; replace BK259 := bb BK259 hb; replace HB := bs HB hb; clear hb hbox hg) | ((with_reducible refine gate_dst (N := 8) rfl ?_); refine box_event ?hg (N := 8) ?hd (cs := #[.int .i64 0, .int .u64 0]) (t := 35) ?hr ?_; (case hd => rfl); (case hg => rfl); (case hr => first | (go_simp; done) | (go_simp; rfl)); intro gb261 hg w92 hbox hb; have BK261 := Aside0.mk (hbox); have GW261 := ge HB hg; have GE261 := ge HB hg; have NB259_261 := nl BK259 hg; have NB261_259 := ng NB259_261; have NB260_261 := nl BK260 hg; have NB261_260 := ng NB260_261; replace BK259 := bb BK259 hb; replace BK260 := bb BK260 hb; replace HB := bs HB hb; clear hb hbox hg))
        replace BK259 := bd1 BK259
        replace BK260 := bd1 BK260
        replace BK261 := bd1 BK261
        replace HB := hb1 HB
        refine start_ (n := 6) (S := fun w' => w'.cell? ⟨gb259, 0, none⟩ = some (.int .u64 a1_0) ∧ w'.cell? ⟨gb259, 1, none⟩ = some (.int .u64 a1_1)) (ds := []) #[false, false, false, false, false, false] (by kernel_rfl) rfl rfl ⟨(blk_cell BK259.out 0).trans rfl, (blk_cell BK259.out 1).trans rfl⟩ (fun hHeld => ?_)
        generalize w92.drew = w93 at BK259 BK260 BK261 HB hHeld ⊢
        refine pure_ (i := 0) (N := some 15) (v := ?_) (a' := ?_) #[true, false, false, false, false, false] rfl rfl (by kernel_rfl) (fun _ _ _ h => h) (Or.inl ⟨by rfl, ?_⟩) ?_ ?_
        rotate_left
        · intro w'
          go_simp
          with_reducible rfl
        rotate_left
        · simp only [Act.put, List.setIfInBounds_toArray, List.set_cons_zero, List.set_cons_succ, i64_w, i32_w]
          rfl
        refine take_ (i := 1) (N := some 16) (v := ?_) (a' := ?_) #[true, true, false, false, false, false] rfl rfl (by kernel_rfl) (fun _ _ _ h => h) (Or.inl ⟨by rfl, ?_⟩) hHeld ?_ ?_
        rotate_left
        · rintro w' ⟨s0, s1⟩
          go_simp
          with_reducible rfl
        rotate_left
        · simp only [Act.put, List.setIfInBounds_toArray, List.set_cons_zero, List.set_cons_succ, i64_w, i32_w]
          rfl
        refine one_ (i := 2) (N := some 11) #[true, true, true, false, false, false] rfl rfl (by kernel_rfl) (by decide) (fun K hK => ?_)
        refine box_step ?hg (N := 11) ?hd (cs := #[.int .u64 0, .int .u64 0]) (t := 89) ?hr ?_; (case hd => rfl); (case hg => rfl); (case hr => first | (go_simp; done) | (go_simp; rfl))
        intro gb262 hg w94 hbox hb
        have BK262 := Aside0.mk (hbox)
        have GW262 := ge HB hg
        have GE262 := ge HB hg
        have NB259_262 := nl BK259 hg
        have NB262_259 := ng NB259_262
        have NB260_262 := nl BK260 hg
        have NB262_260 := ng NB260_262
        have NB261_262 := nl BK261 hg
        have NB262_261 := ng NB261_262
        replace BK259 := bb BK259 hb
        replace BK260 := bb BK260 hb
        replace BK261 := bb BK261 hb
        replace HB := bs HB hb
        clear hb hbox hg
        refine hK.out _ _ ⟨(blk_cell BK259.out 0).trans rfl, (blk_cell BK259.out 1).trans rfl⟩ (fun hHeld => ?_)
        clear hK K
        refine norm_ (a' := ?_) ?_ ?_
        rotate_left
        · show Act.put _ (some 11) _ = _
          simp only [Act.put, List.setIfInBounds_toArray, List.set_cons_zero, List.set_cons_succ, i64_w, i32_w]
          rfl
        refine pure_ (i := 3) (N := some 10) (v := ?_) (a' := ?_) #[true, true, true, true, false, false] rfl rfl (by kernel_rfl) (fun _ _ _ h => h) (Or.inl ⟨by rfl, ?_⟩) ?_ ?_
        rotate_left
        · intro w'
          go_simp
          with_reducible rfl
        rotate_left
        · simp only [Act.put, List.setIfInBounds_toArray, List.set_cons_zero, List.set_cons_succ, i64_w, i32_w]
          rfl
        refine one_ (i := 4) (N := none) #[true, true, true, true, true, false] rfl rfl (by kernel_rfl) (by decide) (fun K hK => ?_)
        have hs95 : w94.cell? ⟨gb262, 0, none⟩ = some (.int .u64 0) := (blk_cell BK262.out 0).trans rfl
        have hfs95 := blk_frozen BK262.out 0
        have hns95_0 := NB259_262.out
        have hns95_1 := NB260_262.out
        have hns95_2 := NB261_262.out
        have hms95_0 := NB262_259.out
        have hms95_1 := NB262_260.out
        have hms95_2 := NB262_261.out
        have hs96 : w94.cell? ⟨gb262, 1, none⟩ = some (.int .u64 0) := (blk_cell BK262.out 1).trans rfl
        have hfs96 := blk_frozen BK262.out 1
        have hns96_0 := NB259_262.out
        have hns96_1 := NB260_262.out
        have hns96_2 := NB261_262.out
        have hms96_0 := NB262_259.out
        have hms96_1 := NB262_260.out
        have hms96_2 := NB262_261.out
        refine skip_ (w1 := ?_) (by rfl) rfl ?_ ?_
        rotate_left
        · go_simp
          rfl
        refine hK.out _ _ ⟨((cell_far (p := ⟨gb262, _, none⟩) NB259_262.out _).trans (((cell_far (p := ⟨gb262, _, none⟩) NB259_262.out _).trans (hHeld.1)))), ((cell_far (p := ⟨gb262, _, none⟩) NB259_262.out _).trans (((cell_far (p := ⟨gb262, _, none⟩) NB259_262.out _).trans (hHeld.2))))⟩ (fun hHeld => ?_)
        clear hK K
        refine pure_ (i := 5) (N := some 12) (v := ?_) (a' := ?_) #[true, true, true, true, true, true] rfl rfl (by kernel_rfl) (fun _ _ _ h => h) (Or.inl ⟨by rfl, ?_⟩) ?_ ?_
        rotate_left
        · intro w'
          go_simp
          with_reducible rfl
        rotate_left
        · simp only [Act.put, List.setIfInBounds_toArray, List.set_cons_zero, List.set_cons_succ, i64_w, i32_w]
          rfl
        refine done_ (by kernel_rfl) ?_
        have hnb97 := NB259_260.out
        have hnc97 := NB260_259.out
        have hnb98 := NB259_261.out
        have hnc98 := NB261_259.out
        have hnb99 := NB259_262.out
        have hnc99 := NB262_259.out
        obtain ⟨hcz100_0, hcz100_1, hfz100_0, hfz100_1⟩ := cz2 BK259
        have hnb101 := NB260_261.out
        have hnc101 := NB261_260.out
        have hnb102 := NB260_262.out
        have hnc102 := NB262_260.out
        obtain ⟨hcz103_0, hcz103_1, hfz103_0, hfz103_1⟩ := cz2 BK260
        try go_wp2_with (first | ((with_reducible refine gate_callee (f := 71) rfl ?_); refine goesL_ (some 33) rfl rfl Try.func71 (by kernel_rfl) rfl #[.agg #[.int .u64 a1_0, .int .u64 a1_1], .agg #[.int .u64 a3_0, .int .u64 a3_1]] rfl zm ?_; (with_reducible refine (corebankref01_Less.calls a1_0 a1_1 a3_0 a3_1 true _ A85.out).mono ?_); rintro e w104 ⟨rfl, hb⟩; refine ⟨_, rfl, ?_⟩; replace BK259 := bb BK259 hb; replace BK260 := bb BK260 hb; replace BK261 := bb BK261 hb; replace BK262 := bpb BK262 hb #[.int .u64 a1_0, .int .u64 a1_1]; replace HB := bs HB hb; (try clear hb); (try clear hb2); (try clear hk); (try clear hi); obtain ⟨hcz105_0, hcz105_1, hfz105_0, hfz105_1⟩ := cz2 BK260; obtain ⟨hcz106_0, hcz106_1, hfz106_0, hfz106_1⟩ := cz2 BK259) | ((with_reducible refine gate_callee (f := 72) rfl ?_); refine goesL_ (some 37) rfl rfl Try.func72 (by kernel_rfl) rfl #[.agg #[.int .u64 a3_0, .int .u64 a3_1], .agg #[.int .u64 a1_0, .int .u64 a1_1]] rfl zm ?_; (with_reducible refine (corebankref01_minus.calls a3_0 a3_1 a1_0 a1_1 t271 t272 _ A87.out).mono ?_); rintro e w107 ⟨rfl, hb⟩; refine ⟨_, rfl, ?_⟩; replace BK259 := bb BK259 hb; replace BK260 := bb BK260 hb; replace BK261 := bb BK261 hb; replace BK262 := bb BK262 hb; replace HB := bs HB hb; (try clear hb); (try clear hb2); (try clear hk); (try clear hi); have hnb108 := NB262_261.out; have hnc108 := NB261_262.out; obtain ⟨hcz109_0, hcz109_1, hfz109_0, hfz109_1⟩ := cz2 BK262) | ((with_reducible refine gate_callee (f := 69) rfl ?_); refine goesL_ (some 41) rfl rfl Try.func69 (by kernel_rfl) rfl #[.bool a2, .agg #[.int .u64 t271, .int .u64 t272]] rfl zm ?_; (with_reducible refine (corebankref01_Join.calls a2 t271 t272 t273 t274 true _ A88.out).mono ?_); rintro e w110 ⟨rfl, hb⟩; refine ⟨_, rfl, ?_⟩; replace BK259 := bb BK259 hb; replace BK260 := bb BK260 hb; replace BK261 := bb BK261 hb; replace BK262 := bpb BK262 hb #[.int .u64 t271, .int .u64 t272]; replace HB := bs HB hb; (try clear hb); (try clear hb2); (try clear hk); (try clear hi)) | ((with_reducible refine gate_dst (N := 13) rfl ?_); refine box_event ?hg (N := 13) ?hd (cs := #[.int .i64 0, .int .u64 0]) (t := 35) ?hr ?_; (case hd => rfl); (case hg => rfl); (case hr => first | (go_simp; done) | (go_simp; rfl)); intro gb276 hg w111 hbox hb; have BK276 := Aside0.mk (hbox); have GW276 := ge HB hg; have GE276 := ge HB hg; have NB259_276 := nl BK259 hg; have NB276_259 := ng NB259_276; have NB260_276 := nl BK260 hg; have NB276_260 := ng NB260_276; have NB261_276 := nl BK261 hg; have NB276_261 := ng NB261_276; have NB262_276 := nl BK262 hg; have NB276_262 := ng NB262_276; replace BK259 := bb BK259 hb; replace BK260 := bb BK260 hb; replace BK261 := bb BK261 hb; replace BK262 := bb BK262 hb; replace HB := bs HB hb; clear hb hbox hg; have hnb112 := NB276_259.out; have hnc112 := NB259_276.out; have hnb113 := NB276_260.out; have hnc113 := NB260_276.out; have hnb114 := NB276_261.out; have hnc114 := NB261_276.out; have hnb115 := NB276_262.out; have hnc115 := NB262_276.out; obtain ⟨hcz116_0, hcz116_1, hfz116_0, hfz116_1⟩ := cz2 BK276; obtain ⟨hcz117_0, hcz117_1, hfz117_0, hfz117_1⟩ := cz2 BK261))
        refine bodyPost_ret (results_ct rfl _ _ gb261 35 #[.int .i64 t273, .int .u64 t274] (0, 0) _ rfl (bp BK261) Try.underlying35 rfl (by kernel_rfl)) rfl ?_
        exact ⟨by first | rfl | (simp [errW_none, errW_some] <;> rfl) | (simp [*, errW_none, errW_some] <;> rfl), hq HB⟩
      · replace c89 := Bool.eq_false_iff.mpr c89
        subst c89
        have H1 : (some (0, 0, 6)) = some (r1, r2, r3) := by rw [if_neg (show ¬ (false = true) by decide)] at H; exact H
        clear H
        have H := H1
        clear H1
        simp only [Option.some.injEq, Prod.mk.injEq] at H
        obtain ⟨rfl, rfl, rfl⟩ := H
        go_enter Try.func49, Try.ntmps49
        try go_wp2_with (first | ((with_reducible refine gate_dst (N := 5) rfl ?_); refine box_event ?hg (N := 5) ?hd (cs := #[.int .u64 a1_0, .int .u64 a1_1]) (t := 89) ?hr ?_; (case hd => rfl); (case hg => rfl); (case hr => first | (go_simp; done) | (go_simp; rfl)); intro gb259 hg w118 hbox hb; have BK259 := Aside0.mk (hbox); have GW259 := ge HB hg; have GE259 := ge HB hg; replace HB := bs HB hb; clear hb hbox hg) | ((with_reducible refine gate_dst (N := 7) rfl ?_); refine box_event ?hg (N := 7) ?hd (cs := #[.int .u64 a3_0, .int .u64 a3_1]) (t := 89) ?hr ?_; (case hd => rfl); (case hg => rfl); (case hr => first | (go_simp; done) | (go_simp; rfl)); intro gb260 hg w119 hbox hb; have BK260 := Aside0.mk (hbox); have GW260 := ge HB hg; have GE260 := ge HB hg; have NB259_260 := nl BK259 hg; have NB260_259 := ng NB259_260; replace BK259 := bb BK259 hb; replace HB := bs HB hb; clear hb hbox hg) | ((with_reducible refine gate_dst (N := 8) rfl ?_); refine box_event ?hg (N := 8) ?hd (cs := #[.int .i64 0, .int .u64 0]) (t := 35) ?hr ?_; (case hd => rfl); (case hg => rfl); (case hr => first | (go_simp; done) | (go_simp; rfl)); intro gb261 hg w120 hbox hb; have BK261 := Aside0.mk (hbox); have GW261 := ge HB hg; have GE261 := ge HB hg; have NB259_261 := nl BK259 hg; have NB261_259 := ng NB259_261; have NB260_261 := nl BK260 hg; have NB261_260 := ng NB260_261; replace BK259 := bb BK259 hb; replace BK260 := bb BK260 hb; replace HB := bs HB hb; clear hb hbox hg))
        replace BK259 := bd1 BK259
        replace BK260 := bd1 BK260
        replace BK261 := bd1 BK261
        replace HB := hb1 HB
        refine start_ (n := 6) (S := fun w' => w'.cell? ⟨gb259, 0, none⟩ = some (.int .u64 a1_0) ∧ w'.cell? ⟨gb259, 1, none⟩ = some (.int .u64 a1_1)) (ds := []) #[false, false, false, false, false, false] (by kernel_rfl) rfl rfl ⟨(blk_cell BK259.out 0).trans rfl, (blk_cell BK259.out 1).trans rfl⟩ (fun hHeld => ?_)
        generalize w120.drew = w121 at BK259 BK260 BK261 HB hHeld ⊢
        refine pure_ (i := 0) (N := some 15) (v := ?_) (a' := ?_) #[true, false, false, false, false, false] rfl rfl (by kernel_rfl) (fun _ _ _ h => h) (Or.inl ⟨by rfl, ?_⟩) ?_ ?_
        rotate_left
        · intro w'
          go_simp
          with_reducible rfl
        rotate_left
        · simp only [Act.put, List.setIfInBounds_toArray, List.set_cons_zero, List.set_cons_succ, i64_w, i32_w]
          rfl
        refine take_ (i := 1) (N := some 16) (v := ?_) (a' := ?_) #[true, true, false, false, false, false] rfl rfl (by kernel_rfl) (fun _ _ _ h => h) (Or.inl ⟨by rfl, ?_⟩) hHeld ?_ ?_
        rotate_left
        · rintro w' ⟨s0, s1⟩
          go_simp
          with_reducible rfl
        rotate_left
        · simp only [Act.put, List.setIfInBounds_toArray, List.set_cons_zero, List.set_cons_succ, i64_w, i32_w]
          rfl
        refine one_ (i := 2) (N := some 11) #[true, true, true, false, false, false] rfl rfl (by kernel_rfl) (by decide) (fun K hK => ?_)
        refine box_step ?hg (N := 11) ?hd (cs := #[.int .u64 0, .int .u64 0]) (t := 89) ?hr ?_; (case hd => rfl); (case hg => rfl); (case hr => first | (go_simp; done) | (go_simp; rfl))
        intro gb262 hg w122 hbox hb
        have BK262 := Aside0.mk (hbox)
        have GW262 := ge HB hg
        have GE262 := ge HB hg
        have NB259_262 := nl BK259 hg
        have NB262_259 := ng NB259_262
        have NB260_262 := nl BK260 hg
        have NB262_260 := ng NB260_262
        have NB261_262 := nl BK261 hg
        have NB262_261 := ng NB261_262
        replace BK259 := bb BK259 hb
        replace BK260 := bb BK260 hb
        replace BK261 := bb BK261 hb
        replace HB := bs HB hb
        clear hb hbox hg
        refine hK.out _ _ ⟨(blk_cell BK259.out 0).trans rfl, (blk_cell BK259.out 1).trans rfl⟩ (fun hHeld => ?_)
        clear hK K
        refine norm_ (a' := ?_) ?_ ?_
        rotate_left
        · show Act.put _ (some 11) _ = _
          simp only [Act.put, List.setIfInBounds_toArray, List.set_cons_zero, List.set_cons_succ, i64_w, i32_w]
          rfl
        refine pure_ (i := 3) (N := some 10) (v := ?_) (a' := ?_) #[true, true, true, true, false, false] rfl rfl (by kernel_rfl) (fun _ _ _ h => h) (Or.inl ⟨by rfl, ?_⟩) ?_ ?_
        rotate_left
        · intro w'
          go_simp
          with_reducible rfl
        rotate_left
        · simp only [Act.put, List.setIfInBounds_toArray, List.set_cons_zero, List.set_cons_succ, i64_w, i32_w]
          rfl
        refine one_ (i := 4) (N := none) #[true, true, true, true, true, false] rfl rfl (by kernel_rfl) (by decide) (fun K hK => ?_)
        have hs123 : w122.cell? ⟨gb262, 0, none⟩ = some (.int .u64 0) := (blk_cell BK262.out 0).trans rfl
        have hfs123 := blk_frozen BK262.out 0
        have hns123_0 := NB259_262.out
        have hns123_1 := NB260_262.out
        have hns123_2 := NB261_262.out
        have hms123_0 := NB262_259.out
        have hms123_1 := NB262_260.out
        have hms123_2 := NB262_261.out
        have hs124 : w122.cell? ⟨gb262, 1, none⟩ = some (.int .u64 0) := (blk_cell BK262.out 1).trans rfl
        have hfs124 := blk_frozen BK262.out 1
        have hns124_0 := NB259_262.out
        have hns124_1 := NB260_262.out
        have hns124_2 := NB261_262.out
        have hms124_0 := NB262_259.out
        have hms124_1 := NB262_260.out
        have hms124_2 := NB262_261.out
        refine skip_ (w1 := ?_) (by rfl) rfl ?_ ?_
        rotate_left
        · go_simp
          rfl
        refine hK.out _ _ ⟨((cell_far (p := ⟨gb262, _, none⟩) NB259_262.out _).trans (((cell_far (p := ⟨gb262, _, none⟩) NB259_262.out _).trans (hHeld.1)))), ((cell_far (p := ⟨gb262, _, none⟩) NB259_262.out _).trans (((cell_far (p := ⟨gb262, _, none⟩) NB259_262.out _).trans (hHeld.2))))⟩ (fun hHeld => ?_)
        clear hK K
        refine pure_ (i := 5) (N := some 12) (v := ?_) (a' := ?_) #[true, true, true, true, true, true] rfl rfl (by kernel_rfl) (fun _ _ _ h => h) (Or.inl ⟨by rfl, ?_⟩) ?_ ?_
        rotate_left
        · intro w'
          go_simp
          with_reducible rfl
        rotate_left
        · simp only [Act.put, List.setIfInBounds_toArray, List.set_cons_zero, List.set_cons_succ, i64_w, i32_w]
          rfl
        refine done_ (by kernel_rfl) ?_
        have hnb125 := NB259_260.out
        have hnc125 := NB260_259.out
        have hnb126 := NB259_261.out
        have hnc126 := NB261_259.out
        have hnb127 := NB259_262.out
        have hnc127 := NB262_259.out
        obtain ⟨hcz128_0, hcz128_1, hfz128_0, hfz128_1⟩ := cz2 BK259
        have hnb129 := NB260_261.out
        have hnc129 := NB261_260.out
        have hnb130 := NB260_262.out
        have hnc130 := NB262_260.out
        obtain ⟨hcz131_0, hcz131_1, hfz131_0, hfz131_1⟩ := cz2 BK260
        try go_wp2_with (first | ((with_reducible refine gate_callee (f := 71) rfl ?_); refine goesL_ (some 33) rfl rfl Try.func71 (by kernel_rfl) rfl #[.agg #[.int .u64 a1_0, .int .u64 a1_1], .agg #[.int .u64 a3_0, .int .u64 a3_1]] rfl zm ?_; (with_reducible refine (corebankref01_Less.calls a1_0 a1_1 a3_0 a3_1 true _ A85.out).mono ?_); rintro e w132 ⟨rfl, hb⟩; refine ⟨_, rfl, ?_⟩; replace BK259 := bb BK259 hb; replace BK260 := bb BK260 hb; replace BK261 := bb BK261 hb; replace BK262 := bpb BK262 hb #[.int .u64 a1_0, .int .u64 a1_1]; replace HB := bs HB hb; (try clear hb); (try clear hb2); (try clear hk); (try clear hi); obtain ⟨hcz133_0, hcz133_1, hfz133_0, hfz133_1⟩ := cz2 BK260; obtain ⟨hcz134_0, hcz134_1, hfz134_0, hfz134_1⟩ := cz2 BK259) | ((with_reducible refine gate_callee (f := 72) rfl ?_); refine goesL_ (some 37) rfl rfl Try.func72 (by kernel_rfl) rfl #[.agg #[.int .u64 a3_0, .int .u64 a3_1], .agg #[.int .u64 a1_0, .int .u64 a1_1]] rfl zm ?_; (with_reducible refine (corebankref01_minus.calls a3_0 a3_1 a1_0 a1_1 t271 t272 _ A87.out).mono ?_); rintro e w135 ⟨rfl, hb⟩; refine ⟨_, rfl, ?_⟩; replace BK259 := bb BK259 hb; replace BK260 := bb BK260 hb; replace BK261 := bb BK261 hb; replace BK262 := bb BK262 hb; replace HB := bs HB hb; (try clear hb); (try clear hb2); (try clear hk); (try clear hi); have hnb136 := NB262_261.out; have hnc136 := NB261_262.out; obtain ⟨hcz137_0, hcz137_1, hfz137_0, hfz137_1⟩ := cz2 BK262) | ((with_reducible refine gate_callee (f := 69) rfl ?_); refine goesL_ (some 41) rfl rfl Try.func69 (by kernel_rfl) rfl #[.bool a2, .agg #[.int .u64 t271, .int .u64 t272]] rfl zm ?_; (with_reducible refine (corebankref01_Join.calls a2 t271 t272 t273 t274 false _ A88.out).mono ?_); rintro e w138 ⟨rfl, hb⟩; refine ⟨_, rfl, ?_⟩; replace BK259 := bb BK259 hb; replace BK260 := bb BK260 hb; replace BK261 := bb BK261 hb; replace BK262 := bpb BK262 hb #[.int .u64 t271, .int .u64 t272]; replace HB := bs HB hb; (try clear hb); (try clear hb2); (try clear hk); (try clear hi)) | ((with_reducible refine gate_dst (N := 13) rfl ?_); refine box_event ?hg (N := 13) ?hd (cs := #[.int .i64 0, .int .u64 0]) (t := 35) ?hr ?_; (case hd => rfl); (case hg => rfl); (case hr => first | (go_simp; done) | (go_simp; rfl)); intro gb276 hg w139 hbox hb; have BK276 := Aside0.mk (hbox); have GW276 := ge HB hg; have GE276 := ge HB hg; have NB259_276 := nl BK259 hg; have NB276_259 := ng NB259_276; have NB260_276 := nl BK260 hg; have NB276_260 := ng NB260_276; have NB261_276 := nl BK261 hg; have NB276_261 := ng NB261_276; have NB262_276 := nl BK262 hg; have NB276_262 := ng NB262_276; replace BK259 := bb BK259 hb; replace BK260 := bb BK260 hb; replace BK261 := bb BK261 hb; replace BK262 := bb BK262 hb; replace HB := bs HB hb; clear hb hbox hg; have hnb140 := NB276_259.out; have hnc140 := NB259_276.out; have hnb141 := NB276_260.out; have hnc141 := NB260_276.out; have hnb142 := NB276_261.out; have hnc142 := NB261_276.out; have hnb143 := NB276_262.out; have hnc143 := NB262_276.out; obtain ⟨hcz144_0, hcz144_1, hfz144_0, hfz144_1⟩ := cz2 BK276; obtain ⟨hcz145_0, hcz145_1, hfz145_0, hfz145_1⟩ := cz2 BK261))
        refine bodyPost_ret (results_ct rfl _ _ gb261 35 #[.int .i64 0, .int .u64 0] (0, 0) _ rfl (bp BK261) Try.underlying35 rfl (by kernel_rfl)) rfl ?_
        exact ⟨by first | rfl | (simp [errW_none, errW_some] <;> rfl) | (simp [*, errW_none, errW_some] <;> rfl), hq HB⟩
    · replace c86 := Bool.eq_false_iff.mpr c86
      subst c86
      have H1 : ((corebankref01_minus.f a1_0 a1_1 a3_0 a3_1).bind fun bt277 => ((corebankref01_Join.f a0 bt277.1 bt277.2).bind fun bt279 => (if bt279.2.2 = true then (some (bt279.1, bt279.2.1, 0)) else (some (0, 0, 6))))) = some (r1, r2, r3) := by rw [if_neg (show ¬ (false = true) by decide)] at H; exact H
      clear H
      have H := H1
      clear H1
      replace H := Option.bind_eq_some_iff.mp H
      obtain ⟨⟨t277, t278⟩, A1460, H⟩ := H
      replace H : ((corebankref01_Join.f a0 t277 t278).bind fun bt279 => (if bt279.2.2 = true then (some (bt279.1, bt279.2.1, 0)) else (some (0, 0, 6)))) = some (r1, r2, r3) := H
      have A146 := Aside0.mk A1460
      clear A1460
      replace H := Option.bind_eq_some_iff.mp H
      obtain ⟨⟨t279, t280, t281⟩, A1470, H⟩ := H
      replace H : (if t281 = true then (some (t279, t280, 0)) else (some (0, 0, 6))) = some (r1, r2, r3) := H
      have A147 := Aside0.mk A1470
      clear A1470
      by_cases c148 : t281 = true
      · subst c148
        have H1 : (some (t279, t280, 0)) = some (r1, r2, r3) := by rw [if_pos rfl] at H; exact H
        clear H
        have H := H1
        clear H1
        simp only [Option.some.injEq, Prod.mk.injEq] at H
        obtain ⟨rfl, rfl, rfl⟩ := H
        go_enter Try.func49, Try.ntmps49
        try go_wp2_with (first | ((with_reducible refine gate_dst (N := 5) rfl ?_); refine box_event ?hg (N := 5) ?hd (cs := #[.int .u64 a1_0, .int .u64 a1_1]) (t := 89) ?hr ?_; (case hd => rfl); (case hg => rfl); (case hr => first | (go_simp; done) | (go_simp; rfl)); intro gb259 hg w149 hbox hb; have BK259 := Aside0.mk (hbox); have GW259 := ge HB hg; have GE259 := ge HB hg; replace HB := bs HB hb; clear hb hbox hg) | ((with_reducible refine gate_dst (N := 7) rfl ?_); refine box_event ?hg (N := 7) ?hd (cs := #[.int .u64 a3_0, .int .u64 a3_1]) (t := 89) ?hr ?_; (case hd => rfl); (case hg => rfl); (case hr => first | (go_simp; done) | (go_simp; rfl)); intro gb260 hg w150 hbox hb; have BK260 := Aside0.mk (hbox); have GW260 := ge HB hg; have GE260 := ge HB hg; have NB259_260 := nl BK259 hg; have NB260_259 := ng NB259_260; replace BK259 := bb BK259 hb; replace HB := bs HB hb; clear hb hbox hg) | ((with_reducible refine gate_dst (N := 8) rfl ?_); refine box_event ?hg (N := 8) ?hd (cs := #[.int .i64 0, .int .u64 0]) (t := 35) ?hr ?_; (case hd => rfl); (case hg => rfl); (case hr => first | (go_simp; done) | (go_simp; rfl)); intro gb261 hg w151 hbox hb; have BK261 := Aside0.mk (hbox); have GW261 := ge HB hg; have GE261 := ge HB hg; have NB259_261 := nl BK259 hg; have NB261_259 := ng NB259_261; have NB260_261 := nl BK260 hg; have NB261_260 := ng NB260_261; replace BK259 := bb BK259 hb; replace BK260 := bb BK260 hb; replace HB := bs HB hb; clear hb hbox hg))
        replace BK259 := bd1 BK259
        replace BK260 := bd1 BK260
        replace BK261 := bd1 BK261
        replace HB := hb1 HB
        refine start_ (n := 6) (S := fun w' => w'.cell? ⟨gb259, 0, none⟩ = some (.int .u64 a1_0) ∧ w'.cell? ⟨gb259, 1, none⟩ = some (.int .u64 a1_1)) (ds := []) #[false, false, false, false, false, false] (by kernel_rfl) rfl rfl ⟨(blk_cell BK259.out 0).trans rfl, (blk_cell BK259.out 1).trans rfl⟩ (fun hHeld => ?_)
        generalize w151.drew = w152 at BK259 BK260 BK261 HB hHeld ⊢
        refine pure_ (i := 0) (N := some 15) (v := ?_) (a' := ?_) #[true, false, false, false, false, false] rfl rfl (by kernel_rfl) (fun _ _ _ h => h) (Or.inl ⟨by rfl, ?_⟩) ?_ ?_
        rotate_left
        · intro w'
          go_simp
          with_reducible rfl
        rotate_left
        · simp only [Act.put, List.setIfInBounds_toArray, List.set_cons_zero, List.set_cons_succ, i64_w, i32_w]
          rfl
        refine take_ (i := 1) (N := some 16) (v := ?_) (a' := ?_) #[true, true, false, false, false, false] rfl rfl (by kernel_rfl) (fun _ _ _ h => h) (Or.inl ⟨by rfl, ?_⟩) hHeld ?_ ?_
        rotate_left
        · rintro w' ⟨s0, s1⟩
          go_simp
          with_reducible rfl
        rotate_left
        · simp only [Act.put, List.setIfInBounds_toArray, List.set_cons_zero, List.set_cons_succ, i64_w, i32_w]
          rfl
        refine one_ (i := 2) (N := some 11) #[true, true, true, false, false, false] rfl rfl (by kernel_rfl) (by decide) (fun K hK => ?_)
        refine box_step ?hg (N := 11) ?hd (cs := #[.int .u64 0, .int .u64 0]) (t := 89) ?hr ?_; (case hd => rfl); (case hg => rfl); (case hr => first | (go_simp; done) | (go_simp; rfl))
        intro gb262 hg w153 hbox hb
        have BK262 := Aside0.mk (hbox)
        have GW262 := ge HB hg
        have GE262 := ge HB hg
        have NB259_262 := nl BK259 hg
        have NB262_259 := ng NB259_262
        have NB260_262 := nl BK260 hg
        have NB262_260 := ng NB260_262
        have NB261_262 := nl BK261 hg
        have NB262_261 := ng NB261_262
        replace BK259 := bb BK259 hb
        replace BK260 := bb BK260 hb
        replace BK261 := bb BK261 hb
        replace HB := bs HB hb
        clear hb hbox hg
        refine hK.out _ _ ⟨(blk_cell BK259.out 0).trans rfl, (blk_cell BK259.out 1).trans rfl⟩ (fun hHeld => ?_)
        clear hK K
        refine norm_ (a' := ?_) ?_ ?_
        rotate_left
        · show Act.put _ (some 11) _ = _
          simp only [Act.put, List.setIfInBounds_toArray, List.set_cons_zero, List.set_cons_succ, i64_w, i32_w]
          rfl
        refine pure_ (i := 3) (N := some 10) (v := ?_) (a' := ?_) #[true, true, true, true, false, false] rfl rfl (by kernel_rfl) (fun _ _ _ h => h) (Or.inl ⟨by rfl, ?_⟩) ?_ ?_
        rotate_left
        · intro w'
          go_simp
          with_reducible rfl
        rotate_left
        · simp only [Act.put, List.setIfInBounds_toArray, List.set_cons_zero, List.set_cons_succ, i64_w, i32_w]
          rfl
        refine one_ (i := 4) (N := none) #[true, true, true, true, true, false] rfl rfl (by kernel_rfl) (by decide) (fun K hK => ?_)
        have hs154 : w153.cell? ⟨gb262, 0, none⟩ = some (.int .u64 0) := (blk_cell BK262.out 0).trans rfl
        have hfs154 := blk_frozen BK262.out 0
        have hns154_0 := NB259_262.out
        have hns154_1 := NB260_262.out
        have hns154_2 := NB261_262.out
        have hms154_0 := NB262_259.out
        have hms154_1 := NB262_260.out
        have hms154_2 := NB262_261.out
        have hs155 : w153.cell? ⟨gb262, 1, none⟩ = some (.int .u64 0) := (blk_cell BK262.out 1).trans rfl
        have hfs155 := blk_frozen BK262.out 1
        have hns155_0 := NB259_262.out
        have hns155_1 := NB260_262.out
        have hns155_2 := NB261_262.out
        have hms155_0 := NB262_259.out
        have hms155_1 := NB262_260.out
        have hms155_2 := NB262_261.out
        refine skip_ (w1 := ?_) (by rfl) rfl ?_ ?_
        rotate_left
        · go_simp
          rfl
        refine hK.out _ _ ⟨((cell_far (p := ⟨gb262, _, none⟩) NB259_262.out _).trans (((cell_far (p := ⟨gb262, _, none⟩) NB259_262.out _).trans (hHeld.1)))), ((cell_far (p := ⟨gb262, _, none⟩) NB259_262.out _).trans (((cell_far (p := ⟨gb262, _, none⟩) NB259_262.out _).trans (hHeld.2))))⟩ (fun hHeld => ?_)
        clear hK K
        refine pure_ (i := 5) (N := some 12) (v := ?_) (a' := ?_) #[true, true, true, true, true, true] rfl rfl (by kernel_rfl) (fun _ _ _ h => h) (Or.inl ⟨by rfl, ?_⟩) ?_ ?_
        rotate_left
        · intro w'
          go_simp
          with_reducible rfl
        rotate_left
        · simp only [Act.put, List.setIfInBounds_toArray, List.set_cons_zero, List.set_cons_succ, i64_w, i32_w]
          rfl
        refine done_ (by kernel_rfl) ?_
        have hnb156 := NB259_260.out
        have hnc156 := NB260_259.out
        have hnb157 := NB259_261.out
        have hnc157 := NB261_259.out
        have hnb158 := NB259_262.out
        have hnc158 := NB262_259.out
        obtain ⟨hcz159_0, hcz159_1, hfz159_0, hfz159_1⟩ := cz2 BK259
        have hnb160 := NB260_261.out
        have hnc160 := NB261_260.out
        have hnb161 := NB260_262.out
        have hnc161 := NB262_260.out
        obtain ⟨hcz162_0, hcz162_1, hfz162_0, hfz162_1⟩ := cz2 BK260
        try go_wp2_with (first | ((with_reducible refine gate_callee (f := 71) rfl ?_); refine goesL_ (some 33) rfl rfl Try.func71 (by kernel_rfl) rfl #[.agg #[.int .u64 a1_0, .int .u64 a1_1], .agg #[.int .u64 a3_0, .int .u64 a3_1]] rfl zm ?_; (with_reducible refine (corebankref01_Less.calls a1_0 a1_1 a3_0 a3_1 false _ A85.out).mono ?_); rintro e w163 ⟨rfl, hb⟩; refine ⟨_, rfl, ?_⟩; replace BK259 := bb BK259 hb; replace BK260 := bb BK260 hb; replace BK261 := bb BK261 hb; replace BK262 := bpb BK262 hb #[.int .u64 a1_0, .int .u64 a1_1]; replace HB := bs HB hb; (try clear hb); (try clear hb2); (try clear hk); (try clear hi); obtain ⟨hcz164_0, hcz164_1, hfz164_0, hfz164_1⟩ := cz2 BK259; obtain ⟨hcz165_0, hcz165_1, hfz165_0, hfz165_1⟩ := cz2 BK260) | ((with_reducible refine gate_callee (f := 72) rfl ?_); refine goesL_ (some 19) rfl rfl Try.func72 (by kernel_rfl) rfl #[.agg #[.int .u64 a1_0, .int .u64 a1_1], .agg #[.int .u64 a3_0, .int .u64 a3_1]] rfl zm ?_; (with_reducible refine (corebankref01_minus.calls a1_0 a1_1 a3_0 a3_1 t277 t278 _ A146.out).mono ?_); rintro e w166 ⟨rfl, hb⟩; refine ⟨_, rfl, ?_⟩; replace BK259 := bb BK259 hb; replace BK260 := bb BK260 hb; replace BK261 := bb BK261 hb; replace BK262 := bb BK262 hb; replace HB := bs HB hb; (try clear hb); (try clear hb2); (try clear hk); (try clear hi); have hnb167 := NB262_261.out; have hnc167 := NB261_262.out; obtain ⟨hcz168_0, hcz168_1, hfz168_0, hfz168_1⟩ := cz2 BK262) | ((with_reducible refine gate_callee (f := 69) rfl ?_); refine goesL_ (some 41) rfl rfl Try.func69 (by kernel_rfl) rfl #[.bool a0, .agg #[.int .u64 t277, .int .u64 t278]] rfl zm ?_; (with_reducible refine (corebankref01_Join.calls a0 t277 t278 t279 t280 true _ A147.out).mono ?_); rintro e w169 ⟨rfl, hb⟩; refine ⟨_, rfl, ?_⟩; replace BK259 := bb BK259 hb; replace BK260 := bb BK260 hb; replace BK261 := bb BK261 hb; replace BK262 := bpb BK262 hb #[.int .u64 t277, .int .u64 t278]; replace HB := bs HB hb; (try clear hb); (try clear hb2); (try clear hk); (try clear hi)) | ((with_reducible refine gate_dst (N := 13) rfl ?_); refine box_event ?hg (N := 13) ?hd (cs := #[.int .i64 0, .int .u64 0]) (t := 35) ?hr ?_; (case hd => rfl); (case hg => rfl); (case hr => first | (go_simp; done) | (go_simp; rfl)); intro gb282 hg w170 hbox hb; have BK282 := Aside0.mk (hbox); have GW282 := ge HB hg; have GE282 := ge HB hg; have NB259_282 := nl BK259 hg; have NB282_259 := ng NB259_282; have NB260_282 := nl BK260 hg; have NB282_260 := ng NB260_282; have NB261_282 := nl BK261 hg; have NB282_261 := ng NB261_282; have NB262_282 := nl BK262 hg; have NB282_262 := ng NB262_282; replace BK259 := bb BK259 hb; replace BK260 := bb BK260 hb; replace BK261 := bb BK261 hb; replace BK262 := bb BK262 hb; replace HB := bs HB hb; clear hb hbox hg; have hnb171 := NB282_259.out; have hnc171 := NB259_282.out; have hnb172 := NB282_260.out; have hnc172 := NB260_282.out; have hnb173 := NB282_261.out; have hnc173 := NB261_282.out; have hnb174 := NB282_262.out; have hnc174 := NB262_282.out; obtain ⟨hcz175_0, hcz175_1, hfz175_0, hfz175_1⟩ := cz2 BK282; obtain ⟨hcz176_0, hcz176_1, hfz176_0, hfz176_1⟩ := cz2 BK261))
        refine bodyPost_ret (results_ct rfl _ _ gb261 35 #[.int .i64 t279, .int .u64 t280] (0, 0) _ rfl (bp BK261) Try.underlying35 rfl (by kernel_rfl)) rfl ?_
        exact ⟨by first | rfl | (simp [errW_none, errW_some] <;> rfl) | (simp [*, errW_none, errW_some] <;> rfl), hq HB⟩
      · replace c148 := Bool.eq_false_iff.mpr c148
        subst c148
        have H1 : (some (0, 0, 6)) = some (r1, r2, r3) := by rw [if_neg (show ¬ (false = true) by decide)] at H; exact H
        clear H
        have H := H1
        clear H1
        simp only [Option.some.injEq, Prod.mk.injEq] at H
        obtain ⟨rfl, rfl, rfl⟩ := H
        go_enter Try.func49, Try.ntmps49
        try go_wp2_with (first | ((with_reducible refine gate_dst (N := 5) rfl ?_); refine box_event ?hg (N := 5) ?hd (cs := #[.int .u64 a1_0, .int .u64 a1_1]) (t := 89) ?hr ?_; (case hd => rfl); (case hg => rfl); (case hr => first | (go_simp; done) | (go_simp; rfl)); intro gb259 hg w177 hbox hb; have BK259 := Aside0.mk (hbox); have GW259 := ge HB hg; have GE259 := ge HB hg; replace HB := bs HB hb; clear hb hbox hg) | ((with_reducible refine gate_dst (N := 7) rfl ?_); refine box_event ?hg (N := 7) ?hd (cs := #[.int .u64 a3_0, .int .u64 a3_1]) (t := 89) ?hr ?_; (case hd => rfl); (case hg => rfl); (case hr => first | (go_simp; done) | (go_simp; rfl)); intro gb260 hg w178 hbox hb; have BK260 := Aside0.mk (hbox); have GW260 := ge HB hg; have GE260 := ge HB hg; have NB259_260 := nl BK259 hg; have NB260_259 := ng NB259_260; replace BK259 := bb BK259 hb; replace HB := bs HB hb; clear hb hbox hg) | ((with_reducible refine gate_dst (N := 8) rfl ?_); refine box_event ?hg (N := 8) ?hd (cs := #[.int .i64 0, .int .u64 0]) (t := 35) ?hr ?_; (case hd => rfl); (case hg => rfl); (case hr => first | (go_simp; done) | (go_simp; rfl)); intro gb261 hg w179 hbox hb; have BK261 := Aside0.mk (hbox); have GW261 := ge HB hg; have GE261 := ge HB hg; have NB259_261 := nl BK259 hg; have NB261_259 := ng NB259_261; have NB260_261 := nl BK260 hg; have NB261_260 := ng NB260_261; replace BK259 := bb BK259 hb; replace BK260 := bb BK260 hb; replace HB := bs HB hb; clear hb hbox hg))
        replace BK259 := bd1 BK259
        replace BK260 := bd1 BK260
        replace BK261 := bd1 BK261
        replace HB := hb1 HB
        refine start_ (n := 6) (S := fun w' => w'.cell? ⟨gb259, 0, none⟩ = some (.int .u64 a1_0) ∧ w'.cell? ⟨gb259, 1, none⟩ = some (.int .u64 a1_1)) (ds := []) #[false, false, false, false, false, false] (by kernel_rfl) rfl rfl ⟨(blk_cell BK259.out 0).trans rfl, (blk_cell BK259.out 1).trans rfl⟩ (fun hHeld => ?_)
        generalize w179.drew = w180 at BK259 BK260 BK261 HB hHeld ⊢
        refine pure_ (i := 0) (N := some 15) (v := ?_) (a' := ?_) #[true, false, false, false, false, false] rfl rfl (by kernel_rfl) (fun _ _ _ h => h) (Or.inl ⟨by rfl, ?_⟩) ?_ ?_
        rotate_left
        · intro w'
          go_simp
          with_reducible rfl
        rotate_left
        · simp only [Act.put, List.setIfInBounds_toArray, List.set_cons_zero, List.set_cons_succ, i64_w, i32_w]
          rfl
        refine take_ (i := 1) (N := some 16) (v := ?_) (a' := ?_) #[true, true, false, false, false, false] rfl rfl (by kernel_rfl) (fun _ _ _ h => h) (Or.inl ⟨by rfl, ?_⟩) hHeld ?_ ?_
        rotate_left
        · rintro w' ⟨s0, s1⟩
          go_simp
          with_reducible rfl
        rotate_left
        · simp only [Act.put, List.setIfInBounds_toArray, List.set_cons_zero, List.set_cons_succ, i64_w, i32_w]
          rfl
        refine one_ (i := 2) (N := some 11) #[true, true, true, false, false, false] rfl rfl (by kernel_rfl) (by decide) (fun K hK => ?_)
        refine box_step ?hg (N := 11) ?hd (cs := #[.int .u64 0, .int .u64 0]) (t := 89) ?hr ?_; (case hd => rfl); (case hg => rfl); (case hr => first | (go_simp; done) | (go_simp; rfl))
        intro gb262 hg w181 hbox hb
        have BK262 := Aside0.mk (hbox)
        have GW262 := ge HB hg
        have GE262 := ge HB hg
        have NB259_262 := nl BK259 hg
        have NB262_259 := ng NB259_262
        have NB260_262 := nl BK260 hg
        have NB262_260 := ng NB260_262
        have NB261_262 := nl BK261 hg
        have NB262_261 := ng NB261_262
        replace BK259 := bb BK259 hb
        replace BK260 := bb BK260 hb
        replace BK261 := bb BK261 hb
        replace HB := bs HB hb
        clear hb hbox hg
        refine hK.out _ _ ⟨(blk_cell BK259.out 0).trans rfl, (blk_cell BK259.out 1).trans rfl⟩ (fun hHeld => ?_)
        clear hK K
        refine norm_ (a' := ?_) ?_ ?_
        rotate_left
        · show Act.put _ (some 11) _ = _
          simp only [Act.put, List.setIfInBounds_toArray, List.set_cons_zero, List.set_cons_succ, i64_w, i32_w]
          rfl
        refine pure_ (i := 3) (N := some 10) (v := ?_) (a' := ?_) #[true, true, true, true, false, false] rfl rfl (by kernel_rfl) (fun _ _ _ h => h) (Or.inl ⟨by rfl, ?_⟩) ?_ ?_
        rotate_left
        · intro w'
          go_simp
          with_reducible rfl
        rotate_left
        · simp only [Act.put, List.setIfInBounds_toArray, List.set_cons_zero, List.set_cons_succ, i64_w, i32_w]
          rfl
        refine one_ (i := 4) (N := none) #[true, true, true, true, true, false] rfl rfl (by kernel_rfl) (by decide) (fun K hK => ?_)
        have hs182 : w181.cell? ⟨gb262, 0, none⟩ = some (.int .u64 0) := (blk_cell BK262.out 0).trans rfl
        have hfs182 := blk_frozen BK262.out 0
        have hns182_0 := NB259_262.out
        have hns182_1 := NB260_262.out
        have hns182_2 := NB261_262.out
        have hms182_0 := NB262_259.out
        have hms182_1 := NB262_260.out
        have hms182_2 := NB262_261.out
        have hs183 : w181.cell? ⟨gb262, 1, none⟩ = some (.int .u64 0) := (blk_cell BK262.out 1).trans rfl
        have hfs183 := blk_frozen BK262.out 1
        have hns183_0 := NB259_262.out
        have hns183_1 := NB260_262.out
        have hns183_2 := NB261_262.out
        have hms183_0 := NB262_259.out
        have hms183_1 := NB262_260.out
        have hms183_2 := NB262_261.out
        refine skip_ (w1 := ?_) (by rfl) rfl ?_ ?_
        rotate_left
        · go_simp
          rfl
        refine hK.out _ _ ⟨((cell_far (p := ⟨gb262, _, none⟩) NB259_262.out _).trans (((cell_far (p := ⟨gb262, _, none⟩) NB259_262.out _).trans (hHeld.1)))), ((cell_far (p := ⟨gb262, _, none⟩) NB259_262.out _).trans (((cell_far (p := ⟨gb262, _, none⟩) NB259_262.out _).trans (hHeld.2))))⟩ (fun hHeld => ?_)
        clear hK K
        refine pure_ (i := 5) (N := some 12) (v := ?_) (a' := ?_) #[true, true, true, true, true, true] rfl rfl (by kernel_rfl) (fun _ _ _ h => h) (Or.inl ⟨by rfl, ?_⟩) ?_ ?_
        rotate_left
        · intro w'
          go_simp
          with_reducible rfl
        rotate_left
        · simp only [Act.put, List.setIfInBounds_toArray, List.set_cons_zero, List.set_cons_succ, i64_w, i32_w]
          rfl
        refine done_ (by kernel_rfl) ?_
        have hnb184 := NB259_260.out
        have hnc184 := NB260_259.out
        have hnb185 := NB259_261.out
        have hnc185 := NB261_259.out
        have hnb186 := NB259_262.out
        have hnc186 := NB262_259.out
        obtain ⟨hcz187_0, hcz187_1, hfz187_0, hfz187_1⟩ := cz2 BK259
        have hnb188 := NB260_261.out
        have hnc188 := NB261_260.out
        have hnb189 := NB260_262.out
        have hnc189 := NB262_260.out
        obtain ⟨hcz190_0, hcz190_1, hfz190_0, hfz190_1⟩ := cz2 BK260
        try go_wp2_with (first | ((with_reducible refine gate_callee (f := 71) rfl ?_); refine goesL_ (some 33) rfl rfl Try.func71 (by kernel_rfl) rfl #[.agg #[.int .u64 a1_0, .int .u64 a1_1], .agg #[.int .u64 a3_0, .int .u64 a3_1]] rfl zm ?_; (with_reducible refine (corebankref01_Less.calls a1_0 a1_1 a3_0 a3_1 false _ A85.out).mono ?_); rintro e w191 ⟨rfl, hb⟩; refine ⟨_, rfl, ?_⟩; replace BK259 := bb BK259 hb; replace BK260 := bb BK260 hb; replace BK261 := bb BK261 hb; replace BK262 := bpb BK262 hb #[.int .u64 a1_0, .int .u64 a1_1]; replace HB := bs HB hb; (try clear hb); (try clear hb2); (try clear hk); (try clear hi); obtain ⟨hcz192_0, hcz192_1, hfz192_0, hfz192_1⟩ := cz2 BK259; obtain ⟨hcz193_0, hcz193_1, hfz193_0, hfz193_1⟩ := cz2 BK260) | ((with_reducible refine gate_callee (f := 72) rfl ?_); refine goesL_ (some 19) rfl rfl Try.func72 (by kernel_rfl) rfl #[.agg #[.int .u64 a1_0, .int .u64 a1_1], .agg #[.int .u64 a3_0, .int .u64 a3_1]] rfl zm ?_; (with_reducible refine (corebankref01_minus.calls a1_0 a1_1 a3_0 a3_1 t277 t278 _ A146.out).mono ?_); rintro e w194 ⟨rfl, hb⟩; refine ⟨_, rfl, ?_⟩; replace BK259 := bb BK259 hb; replace BK260 := bb BK260 hb; replace BK261 := bb BK261 hb; replace BK262 := bb BK262 hb; replace HB := bs HB hb; (try clear hb); (try clear hb2); (try clear hk); (try clear hi); have hnb195 := NB262_261.out; have hnc195 := NB261_262.out; obtain ⟨hcz196_0, hcz196_1, hfz196_0, hfz196_1⟩ := cz2 BK262) | ((with_reducible refine gate_callee (f := 69) rfl ?_); refine goesL_ (some 41) rfl rfl Try.func69 (by kernel_rfl) rfl #[.bool a0, .agg #[.int .u64 t277, .int .u64 t278]] rfl zm ?_; (with_reducible refine (corebankref01_Join.calls a0 t277 t278 t279 t280 false _ A147.out).mono ?_); rintro e w197 ⟨rfl, hb⟩; refine ⟨_, rfl, ?_⟩; replace BK259 := bb BK259 hb; replace BK260 := bb BK260 hb; replace BK261 := bb BK261 hb; replace BK262 := bpb BK262 hb #[.int .u64 t277, .int .u64 t278]; replace HB := bs HB hb; (try clear hb); (try clear hb2); (try clear hk); (try clear hi)) | ((with_reducible refine gate_dst (N := 13) rfl ?_); refine box_event ?hg (N := 13) ?hd (cs := #[.int .i64 0, .int .u64 0]) (t := 35) ?hr ?_; (case hd => rfl); (case hg => rfl); (case hr => first | (go_simp; done) | (go_simp; rfl)); intro gb282 hg w198 hbox hb; have BK282 := Aside0.mk (hbox); have GW282 := ge HB hg; have GE282 := ge HB hg; have NB259_282 := nl BK259 hg; have NB282_259 := ng NB259_282; have NB260_282 := nl BK260 hg; have NB282_260 := ng NB260_282; have NB261_282 := nl BK261 hg; have NB282_261 := ng NB261_282; have NB262_282 := nl BK262 hg; have NB282_262 := ng NB262_282; replace BK259 := bb BK259 hb; replace BK260 := bb BK260 hb; replace BK261 := bb BK261 hb; replace BK262 := bb BK262 hb; replace HB := bs HB hb; clear hb hbox hg; have hnb199 := NB282_259.out; have hnc199 := NB259_282.out; have hnb200 := NB282_260.out; have hnc200 := NB260_282.out; have hnb201 := NB282_261.out; have hnc201 := NB261_282.out; have hnb202 := NB282_262.out; have hnc202 := NB262_282.out; obtain ⟨hcz203_0, hcz203_1, hfz203_0, hfz203_1⟩ := cz2 BK282; obtain ⟨hcz204_0, hcz204_1, hfz204_0, hfz204_1⟩ := cz2 BK261))
        refine bodyPost_ret (results_ct rfl _ _ gb261 35 #[.int .i64 0, .int .u64 0] (0, 0) _ rfl (bp BK261) Try.underlying35 rfl (by kernel_rfl)) rfl ?_
        exact ⟨by first | rfl | (simp [errW_none, errW_some] <;> rfl) | (simp [*, errW_none, errW_some] <;> rfl), hq HB⟩

end Go.Proofs.Ytlmabdiodopidaa.P
