-- laid by wip/tools/pr.sh (a patched printer; Lean checks it)
import Derived.Test.YtlmabdiodopidaaSq
import Derived.Test.YtlmabdiodopidaaPx0
import Derived.Test.YtlmabdiodopidaaPx9
import Derived.Test.YtlmabdiodopidaaLeaf
namespace Go.Proofs.Ytlmabdiodopidaa.P
open Go.Proofs.Ytlmabdiodopidaa.G
attribute [local go_sem high] un_not64 un_noti run_add64
open Go.RowKit Go.Proofs.YtlmabdiodopidaaW.PrintWords Go.Proofs.YtlmabdiodopidaaW.PrintLast Go.Proofs.YtlmabdiodopidaaW.PrintMore
attribute [local go_sem] max2_int min2_int max_two min_two max_three min_three max_four min_four   -- for this text's walks alone
set_option linter.unusedVariables false
set_option linter.unusedSimpArgs false

/-! ### wide_Mul: function 44 -/
def wide_Mul.f (a0 : Int) (a1 : Int) : Option (Int × Int) := (wide_abs.f a0).bind fun t154 => ((wide_abs.f a1).bind fun t155 => ((bits_Mul64.f t154 t155).bind fun bt156 => (if ((decide (a0 < 0)) != (decide (a1 < 0))) = true then ((wide_negate.f (wrap64 (bt156.1)) bt156.2).bind fun bt159 => (some (bt159.1, bt159.2))) else (some (wrap64 (bt156.1), bt156.2)))))
set_option maxHeartbeats 8000000 in
set_option maxRecDepth 100000 in
theorem wide_Mul.calls (a0 : Int) (a1 : Int) (r1 : Int) (r2 : Int) (w : World) (h : wide_Mul.f a0 a1 = some (r1, r2)) :
    Calls Try.prog 44 #[.int .i64 a0, .int .i64 a1] w fun e w' => e = .returned (.agg #[.int .i64 r1, .int .u64 r2]) ∧ Below w.heap.size w w' := by
  have hu35 := Try.underlying35
  have HB := Aside0.mk (Below.refl w.heap.size w)
  have H : ((wide_abs.f a0).bind fun t154 => ((wide_abs.f a1).bind fun t155 => ((bits_Mul64.f t154 t155).bind fun bt156 => (if ((decide (a0 < 0)) != (decide (a1 < 0))) = true then ((wide_negate.f (wrap64 (bt156.1)) bt156.2).bind fun bt159 => (some (bt159.1, bt159.2))) else (some (wrap64 (bt156.1), bt156.2)))))) = some (r1, r2) := h
  clear h
  replace H := Option.bind_eq_some_iff.mp H
  obtain ⟨t154, A30, H⟩ := H
  replace H : ((wide_abs.f a1).bind fun t155 => ((bits_Mul64.f t154 t155).bind fun bt156 => (if ((decide (a0 < 0)) != (decide (a1 < 0))) = true then ((wide_negate.f (wrap64 (bt156.1)) bt156.2).bind fun bt159 => (some (bt159.1, bt159.2))) else (some (wrap64 (bt156.1), bt156.2))))) = some (r1, r2) := H
  have A3 := Aside0.mk A30
  clear A30
  replace H := Option.bind_eq_some_iff.mp H
  obtain ⟨t155, A40, H⟩ := H
  replace H : ((bits_Mul64.f t154 t155).bind fun bt156 => (if ((decide (a0 < 0)) != (decide (a1 < 0))) = true then ((wide_negate.f (wrap64 (bt156.1)) bt156.2).bind fun bt159 => (some (bt159.1, bt159.2))) else (some (wrap64 (bt156.1), bt156.2)))) = some (r1, r2) := H
  have A4 := Aside0.mk A40
  clear A40
  replace H := Option.bind_eq_some_iff.mp H
  obtain ⟨⟨t156, t157⟩, A50, H⟩ := H
  replace H : (if ((decide (a0 < 0)) != (decide (a1 < 0))) = true then ((wide_negate.f (wrap64 (t156)) t157).bind fun bt159 => (some (bt159.1, bt159.2))) else (some (wrap64 (t156), t157))) = some (r1, r2) := H
  have A5 := Aside0.mk A50
  clear A50
  by_cases c6 : ((decide (a0 < 0)) != (decide (a1 < 0))) = true
  · rw [if_pos c6] at H
    have c6b0 : ((decide (a0 < 0)) != (decide (a1 < 0))) = true := c6
    (try (have c6b1 : decide ((decide (a0 < 0)) = (decide (a1 < 0))) = false := by simpa using c6))
    (try (have c6b2 : ((decide (a0 < 0)) == (decide (a1 < 0))) = false := by simpa using c6))
    (try (have c6b3 : ¬ ((decide (a0 < 0)) = (decide (a1 < 0))) := by simpa using c6))
    clear c6
    replace H := Option.bind_eq_some_iff.mp H
    obtain ⟨⟨t159, t160⟩, A70, H⟩ := H
    replace H : (some (t159, t160)) = some (r1, r2) := H
    have A7 := Aside0.mk A70
    clear A70
    simp only [Option.some.injEq, Prod.mk.injEq] at H
    obtain ⟨rfl, rfl⟩ := H
    go_enter Try.func44, Try.ntmps44
    go_wp2_with (first | ((with_reducible refine gate_dst (N := 4) rfl ?_); refine box_event ?hg (N := 4) ?hd (cs := #[.int .i64 0, .int .u64 0]) (t := 35) ?hr ?_; (case hd => rfl); (case hg => rfl); (case hr => first | (go_simp; done) | (go_simp; rfl)); intro gb153 hg w8 hbox hb; have BK153 := Aside0.mk (hbox); have GW153 := ge HB hg; have GE153 := ge HB hg; replace HB := bs HB hb; clear hb hbox hg) | ((with_reducible refine gate_callee (f := 62) rfl ?_); refine goesL_ (some 10) rfl rfl Try.func62 (by kernel_rfl) rfl #[.int .i64 a0] rfl zm ?_; (with_reducible refine (wide_abs.calls a0 t154 _ A3.out).mono ?_); rintro e w' ⟨rfl, ⟨nd, rfl⟩⟩; refine ⟨_, rfl, ?_⟩; (try (rw [drewN_self w8]; generalize hq_ : World.drewN w8 _ = w8; replace BK153 : Aside0 (w8.heap[gb153]? = some (.cells #[.int .i64 0, .int .u64 0] 35 (0, 0))) := ⟨by rw [← hq_]; exact (bq BK153)⟩; replace HB : Aside0 (Below w.heap.size w w8) := ⟨by rw [← hq_]; exact (hq HB)⟩; clear hq_))) | ((with_reducible refine gate_callee (f := 62) rfl ?_); refine goesL_ (some 12) rfl rfl Try.func62 (by kernel_rfl) rfl #[.int .i64 a1] rfl zm ?_; (with_reducible refine (wide_abs.calls a1 t155 _ A4.out).mono ?_); rintro e w' ⟨rfl, ⟨nd, rfl⟩⟩; refine ⟨_, rfl, ?_⟩; (try (rw [drewN_self w8]; generalize hq_ : World.drewN w8 _ = w8; replace BK153 : Aside0 (w8.heap[gb153]? = some (.cells #[.int .i64 0, .int .u64 0] 35 (0, 0))) := ⟨by rw [← hq_]; exact (bq BK153)⟩; replace HB : Aside0 (Below w.heap.size w w8) := ⟨by rw [← hq_]; exact (hq HB)⟩; clear hq_))) | ((with_reducible refine gate_callee (f := 64) rfl ?_); refine goesL_ (some 13) rfl rfl Try.func64 (by kernel_rfl) rfl #[.int .u64 t154, .int .u64 t155] rfl zm ?_; (with_reducible refine (bits_Mul64.calls t154 t155 t156 t157 _ A5.out).mono ?_); rintro e w' ⟨rfl, ⟨nd, rfl⟩⟩; refine ⟨_, rfl, ?_⟩; (try (rw [drewN_self w8]; generalize hq_ : World.drewN w8 _ = w8; replace BK153 : Aside0 (w8.heap[gb153]? = some (.cells #[.int .i64 0, .int .u64 0] 35 (0, 0))) := ⟨by rw [← hq_]; exact (bq BK153)⟩; replace HB : Aside0 (Below w.heap.size w w8) := ⟨by rw [← hq_]; exact (hq HB)⟩; clear hq_))) | ((with_reducible refine gate_dst (N := 7) rfl ?_); refine box_event ?hg (N := 7) ?hd (cs := #[.int .i64 0, .int .u64 0]) (t := 35) ?hr ?_; (case hd => rfl); (case hg => rfl); (case hr => first | (go_simp; done) | (go_simp; rfl)); intro gb158 hg w9 hbox hb; have BK158 := Aside0.mk (hbox); have GW158 := ge HB hg; have GE158 := ge HB hg; have NB153_158 := nl BK153 hg; have NB158_153 := ng NB153_158; replace BK153 := bb BK153 hb; replace HB := bs HB hb; clear hb hbox hg; have hnb10 := NB158_153.out; have hnc10 := NB153_158.out; obtain ⟨hcz11_0, hcz11_1, hfz11_0, hfz11_1⟩ := cz2 BK158) | ((with_reducible refine gate_callee (f := 65) rfl ?_); refine goesL_ (some 26) rfl rfl Try.func65 (by kernel_rfl) rfl #[.agg #[.int .i64 (wrap64 (t156)), .int .u64 t157]] rfl zm ?_; (with_reducible refine (wide_negate.calls (wrap64 (t156)) t157 t159 t160 _ A7.out).mono ?_); rintro e w12 ⟨rfl, hb⟩; refine ⟨_, rfl, ?_⟩; replace BK153 := bb BK153 hb; replace BK158 := bpb BK158 hb #[.int .i64 (wrap64 (t156)), .int .u64 t157]; replace HB := bs HB hb; (try clear hb); (try clear hb2); (try clear hk); (try clear hi); obtain ⟨hcz13_0, hcz13_1, hfz13_0, hfz13_1⟩ := cz2 BK158; obtain ⟨hcz14_0, hcz14_1, hfz14_0, hfz14_1⟩ := cz2 BK153))
    refine bodyPost_ret (results_cell_row rfl _ _ gb153 35 #[.int .i64 t159, .int .u64 t160] (0, 0) _ rfl (bp BK153) Try.underlying35 rfl (by kernel_rfl)) rfl ?_
    exact ⟨by first | rfl | (simp [errW_none, errW_some] <;> rfl) | (simp [*, errW_none, errW_some] <;> rfl), hq HB⟩
  · rw [if_neg c6] at H
    have c6b0 : ((decide (a0 < 0)) != (decide (a1 < 0))) = false := by simpa using c6
    (try (have c6b1 : decide ((decide (a0 < 0)) = (decide (a1 < 0))) = true := by simpa using c6))
    (try (have c6b2 : ((decide (a0 < 0)) == (decide (a1 < 0))) = true := by simpa using c6))
    clear c6
    simp only [Option.some.injEq, Prod.mk.injEq] at H
    obtain ⟨rfl, rfl⟩ := H
    go_enter Try.func44, Try.ntmps44
    go_wp2_with (first | ((with_reducible refine gate_dst (N := 4) rfl ?_); refine box_event ?hg (N := 4) ?hd (cs := #[.int .i64 0, .int .u64 0]) (t := 35) ?hr ?_; (case hd => rfl); (case hg => rfl); (case hr => first | (go_simp; done) | (go_simp; rfl)); intro gb153 hg w15 hbox hb; have BK153 := Aside0.mk (hbox); have GW153 := ge HB hg; have GE153 := ge HB hg; replace HB := bs HB hb; clear hb hbox hg) | ((with_reducible refine gate_callee (f := 62) rfl ?_); refine goesL_ (some 10) rfl rfl Try.func62 (by kernel_rfl) rfl #[.int .i64 a0] rfl zm ?_; (with_reducible refine (wide_abs.calls a0 t154 _ A3.out).mono ?_); rintro e w' ⟨rfl, ⟨nd, rfl⟩⟩; refine ⟨_, rfl, ?_⟩; (try (rw [drewN_self w15]; generalize hq_ : World.drewN w15 _ = w15; replace BK153 : Aside0 (w15.heap[gb153]? = some (.cells #[.int .i64 0, .int .u64 0] 35 (0, 0))) := ⟨by rw [← hq_]; exact (bq BK153)⟩; replace HB : Aside0 (Below w.heap.size w w15) := ⟨by rw [← hq_]; exact (hq HB)⟩; clear hq_))) | ((with_reducible refine gate_callee (f := 62) rfl ?_); refine goesL_ (some 12) rfl rfl Try.func62 (by kernel_rfl) rfl #[.int .i64 a1] rfl zm ?_; (with_reducible refine (wide_abs.calls a1 t155 _ A4.out).mono ?_); rintro e w' ⟨rfl, ⟨nd, rfl⟩⟩; refine ⟨_, rfl, ?_⟩; (try (rw [drewN_self w15]; generalize hq_ : World.drewN w15 _ = w15; replace BK153 : Aside0 (w15.heap[gb153]? = some (.cells #[.int .i64 0, .int .u64 0] 35 (0, 0))) := ⟨by rw [← hq_]; exact (bq BK153)⟩; replace HB : Aside0 (Below w.heap.size w w15) := ⟨by rw [← hq_]; exact (hq HB)⟩; clear hq_))) | ((with_reducible refine gate_callee (f := 64) rfl ?_); refine goesL_ (some 13) rfl rfl Try.func64 (by kernel_rfl) rfl #[.int .u64 t154, .int .u64 t155] rfl zm ?_; (with_reducible refine (bits_Mul64.calls t154 t155 t156 t157 _ A5.out).mono ?_); rintro e w' ⟨rfl, ⟨nd, rfl⟩⟩; refine ⟨_, rfl, ?_⟩; (try (rw [drewN_self w15]; generalize hq_ : World.drewN w15 _ = w15; replace BK153 : Aside0 (w15.heap[gb153]? = some (.cells #[.int .i64 0, .int .u64 0] 35 (0, 0))) := ⟨by rw [← hq_]; exact (bq BK153)⟩; replace HB : Aside0 (Below w.heap.size w w15) := ⟨by rw [← hq_]; exact (hq HB)⟩; clear hq_))) | ((with_reducible refine gate_dst (N := 7) rfl ?_); refine box_event ?hg (N := 7) ?hd (cs := #[.int .i64 0, .int .u64 0]) (t := 35) ?hr ?_; (case hd => rfl); (case hg => rfl); (case hr => first | (go_simp; done) | (go_simp; rfl)); intro gb158 hg w16 hbox hb; have BK158 := Aside0.mk (hbox); have GW158 := ge HB hg; have GE158 := ge HB hg; have NB153_158 := nl BK153 hg; have NB158_153 := ng NB153_158; replace BK153 := bb BK153 hb; replace HB := bs HB hb; clear hb hbox hg; have hnb17 := NB158_153.out; have hnc17 := NB153_158.out; obtain ⟨hcz18_0, hcz18_1, hfz18_0, hfz18_1⟩ := cz2 BK158; obtain ⟨hcz19_0, hcz19_1, hfz19_0, hfz19_1⟩ := cz2 BK153))
    refine bodyPost_ret (results_cell_row rfl _ _ gb153 35 #[.int .i64 (wrap64 (t156)), .int .u64 t157] (0, 0) _ rfl (bp BK153) Try.underlying35 rfl (by kernel_rfl)) rfl ?_
    exact ⟨by first | rfl | (simp [errW_none, errW_some] <;> rfl) | (simp [*, errW_none, errW_some] <;> rfl), hq HB⟩

end Go.Proofs.Ytlmabdiodopidaa.P
