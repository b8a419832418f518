-- laid by wip/tools/pr.sh (a patched printer; Lean checks it)
import Derived.Test.YtlmabdiodopidaaSq
import Derived.Test.YtlmabdiodopidaaPx0
import Derived.Test.YtlmabdiodopidaaPx17
import Derived.Test.YtlmabdiodopidaaPx20
import Derived.Test.YtlmabdiodopidaaLeaf
namespace Go.Proofs.Ytlmabdiodopidaa.P
open Go.Proofs.Ytlmabdiodopidaa.G
attribute [local go_sem high] un_not64 un_noti run_add64
open Go.RowKit Go.Proofs.YtlmabdiodopidaaW.PrintWords Go.Proofs.YtlmabdiodopidaaW.PrintLast Go.Proofs.YtlmabdiodopidaaW.PrintMore
attribute [local go_sem] max2_int min2_int max_two min_two max_three min_three max_four min_four   -- for this text's walks alone
set_option linter.unusedVariables false
set_option linter.unusedSimpArgs false

/-! ### corebankref01_Add: function 28 -/
def corebankref01_Add.f (a0_0 : Int) (a0_1 : Int) (a1_0 : Int) (a1_1 : Int) : Option (Int × Int × Int) := (corebankref01_Split.f a0_0 a0_1).bind fun bt286 => ((corebankref01_Split.f a1_0 a1_1).bind fun bt290 => ((corebankref01_sum.f bt286.1 bt286.2.1 bt286.2.2 bt290.1 bt290.2.1 bt290.2.2).bind fun bt294 => (some (bt294.1, bt294.2.1, bt294.2.2))))
set_option maxHeartbeats 8000000 in
set_option maxRecDepth 100000 in
theorem corebankref01_Add.calls (a0_0 : Int) (a0_1 : Int) (a1_0 : Int) (a1_1 : Int) (r1 : Int) (r2 : Int) (r3 : Int) (w : World) (h : corebankref01_Add.f a0_0 a0_1 a1_0 a1_1 = some (r1, r2, r3)) :
    Calls Try.prog 28 #[.agg #[.int .i64 a0_0, .int .u64 a0_1], .agg #[.int .i64 a1_0, .int .u64 a1_1]] w fun e w' => e = .returned (.tuple #[.agg #[.int .i64 r1, .int .u64 r2], .int .i64 r3]) ∧ Below w.heap.size w w' := by
  have hu35 := Try.underlying35
  have hu89 := Try.underlying89
  have HB := Aside0.mk (Below.refl w.heap.size w)
  have H : ((corebankref01_Split.f a0_0 a0_1).bind fun bt286 => ((corebankref01_Split.f a1_0 a1_1).bind fun bt290 => ((corebankref01_sum.f bt286.1 bt286.2.1 bt286.2.2 bt290.1 bt290.2.1 bt290.2.2).bind fun bt294 => (some (bt294.1, bt294.2.1, bt294.2.2))))) = some (r1, r2, r3) := h
  clear h
  replace H := Option.bind_eq_some_iff.mp H
  obtain ⟨⟨t286, t287, t288⟩, A30, H⟩ := H
  replace H : ((corebankref01_Split.f a1_0 a1_1).bind fun bt290 => ((corebankref01_sum.f t286 t287 t288 bt290.1 bt290.2.1 bt290.2.2).bind fun bt294 => (some (bt294.1, bt294.2.1, bt294.2.2)))) = some (r1, r2, r3) := H
  have A3 := Aside0.mk A30
  clear A30
  replace H := Option.bind_eq_some_iff.mp H
  obtain ⟨⟨t290, t291, t292⟩, A40, H⟩ := H
  replace H : ((corebankref01_sum.f t286 t287 t288 t290 t291 t292).bind fun bt294 => (some (bt294.1, bt294.2.1, bt294.2.2))) = some (r1, r2, r3) := H
  have A4 := Aside0.mk A40
  clear A40
  replace H := Option.bind_eq_some_iff.mp H
  obtain ⟨⟨t294, t295, t296⟩, A50, H⟩ := H
  replace H : (some (t294, t295, t296)) = some (r1, r2, r3) := H
  have A5 := Aside0.mk A50
  clear A50
  simp only [Option.some.injEq, Prod.mk.injEq] at H
  obtain ⟨rfl, rfl, rfl⟩ := H
  go_enter Try.func28, Try.ntmps28
  go_wp2_with (first | ((with_reducible refine gate_dst (N := 2) rfl ?_); refine box_event ?hg (N := 2) ?hd (cs := #[.int .i64 a0_0, .int .u64 a0_1]) (t := 35) ?hr ?_; (case hd => rfl); (case hg => rfl); (case hr => first | (go_simp; done) | (go_simp; rfl)); intro gb283 hg w6 hbox hb; have BK283 := Aside0.mk (hbox); have GW283 := ge HB hg; have GE283 := ge HB hg; replace HB := bs HB hb; clear hb hbox hg) | ((with_reducible refine gate_dst (N := 3) rfl ?_); refine box_event ?hg (N := 3) ?hd (cs := #[.int .i64 a1_0, .int .u64 a1_1]) (t := 35) ?hr ?_; (case hd => rfl); (case hg => rfl); (case hr => first | (go_simp; done) | (go_simp; rfl)); intro gb284 hg w7 hbox hb; have BK284 := Aside0.mk (hbox); have GW284 := ge HB hg; have GE284 := ge HB hg; have NB283_284 := nl BK283 hg; have NB284_283 := ng NB283_284; replace BK283 := bb BK283 hb; replace HB := bs HB hb; clear hb hbox hg) | ((with_reducible refine gate_dst (N := 4) rfl ?_); refine box_event ?hg (N := 4) ?hd (cs := #[.int .i64 0, .int .u64 0]) (t := 35) ?hr ?_; (case hd => rfl); (case hg => rfl); (case hr => first | (go_simp; done) | (go_simp; rfl)); intro gb285 hg w8 hbox hb; have BK285 := Aside0.mk (hbox); have GW285 := ge HB hg; have GE285 := ge HB hg; have NB283_285 := nl BK283 hg; have NB285_283 := ng NB283_285; have NB284_285 := nl BK284 hg; have NB285_284 := ng NB284_285; replace BK283 := bb BK283 hb; replace BK284 := bb BK284 hb; replace HB := bs HB hb; clear hb hbox hg; have hnb9 := NB283_284.out; have hnc9 := NB284_283.out; have hnb10 := NB283_285.out; have hnc10 := NB285_283.out; obtain ⟨hcz11_0, hcz11_1, hfz11_0, hfz11_1⟩ := cz2 BK283) | ((with_reducible refine gate_callee (f := 48) rfl ?_); refine goesL_ (some 12) rfl rfl Try.func48 (by kernel_rfl) rfl #[.agg #[.int .i64 a0_0, .int .u64 a0_1]] rfl zm ?_; (with_reducible refine (corebankref01_Split.calls a0_0 a0_1 t286 t287 t288 _ A3.out).mono ?_); rintro e w12 ⟨rfl, hb⟩; refine ⟨_, rfl, ?_⟩; replace BK283 := bb BK283 hb; replace BK284 := bb BK284 hb; replace BK285 := bb BK285 hb; replace HB := bs HB hb; (try clear hb); (try clear hb2); (try clear hk); (try clear hi)) | ((with_reducible refine gate_dst (N := 7) rfl ?_); refine box_event ?hg (N := 7) ?hd (cs := #[.int .u64 0, .int .u64 0]) (t := 89) ?hr ?_; (case hd => rfl); (case hg => rfl); (case hr => first | (go_simp; done) | (go_simp; rfl)); intro gb289 hg w13 hbox hb; have BK289 := Aside0.mk (hbox); have GW289 := ge HB hg; have GE289 := ge HB hg; have NB283_289 := nl BK283 hg; have NB289_283 := ng NB283_289; have NB284_289 := nl BK284 hg; have NB289_284 := ng NB284_289; have NB285_289 := nl BK285 hg; have NB289_285 := ng NB285_289; replace BK283 := bb BK283 hb; replace BK284 := bb BK284 hb; replace BK285 := bb BK285 hb; replace HB := bs HB hb; clear hb hbox hg; have hnb14 := NB289_283.out; have hnc14 := NB283_289.out; have hnb15 := NB289_284.out; have hnc15 := NB284_289.out; have hnb16 := NB289_285.out; have hnc16 := NB285_289.out; obtain ⟨hcz17_0, hcz17_1, hfz17_0, hfz17_1⟩ := cz2 BK289; have hnb18 := NB284_285.out; have hnc18 := NB285_284.out; obtain ⟨hcz19_0, hcz19_1, hfz19_0, hfz19_1⟩ := cz2 BK284) | ((with_reducible refine gate_callee (f := 48) rfl ?_); refine goesL_ (some 17) rfl rfl Try.func48 (by kernel_rfl) rfl #[.agg #[.int .i64 a1_0, .int .u64 a1_1]] rfl zm ?_; (with_reducible refine (corebankref01_Split.calls a1_0 a1_1 t290 t291 t292 _ A4.out).mono ?_); rintro e w20 ⟨rfl, hb⟩; refine ⟨_, rfl, ?_⟩; replace BK283 := bb BK283 hb; replace BK284 := bb BK284 hb; replace BK285 := bb BK285 hb; replace BK289 := bpb BK289 hb #[.int .u64 t287, .int .u64 t288]; replace HB := bs HB hb; (try clear hb); (try clear hb2); (try clear hk); (try clear hi)) | ((with_reducible refine gate_dst (N := 9) rfl ?_); refine box_event ?hg (N := 9) ?hd (cs := #[.int .u64 0, .int .u64 0]) (t := 89) ?hr ?_; (case hd => rfl); (case hg => rfl); (case hr => first | (go_simp; done) | (go_simp; rfl)); intro gb293 hg w21 hbox hb; have BK293 := Aside0.mk (hbox); have GW293 := ge HB hg; have GE293 := ge HB hg; have NB283_293 := nl BK283 hg; have NB293_283 := ng NB283_293; have NB284_293 := nl BK284 hg; have NB293_284 := ng NB284_293; have NB285_293 := nl BK285 hg; have NB293_285 := ng NB285_293; have NB289_293 := nl BK289 hg; have NB293_289 := ng NB289_293; replace BK283 := bb BK283 hb; replace BK284 := bb BK284 hb; replace BK285 := bb BK285 hb; replace BK289 := bb BK289 hb; replace HB := bs HB hb; clear hb hbox hg; have hnb22 := NB293_283.out; have hnc22 := NB283_293.out; have hnb23 := NB293_284.out; have hnc23 := NB284_293.out; have hnb24 := NB293_285.out; have hnc24 := NB285_293.out; have hnb25 := NB293_289.out; have hnc25 := NB289_293.out; obtain ⟨hcz26_0, hcz26_1, hfz26_0, hfz26_1⟩ := cz2 BK293; obtain ⟨hcz27_0, hcz27_1, hfz27_0, hfz27_1⟩ := cz2 BK289) | ((with_reducible refine gate_callee (f := 49) rfl ?_); refine goesL_ (some 24) rfl rfl Try.func49 (by kernel_rfl) rfl #[.bool t286, .agg #[.int .u64 t287, .int .u64 t288], .bool t290, .agg #[.int .u64 t291, .int .u64 t292]] rfl zm ?_; (with_reducible refine (corebankref01_sum.calls t286 t287 t288 t290 t291 t292 t294 t295 t296 _ A5.out).mono ?_); rintro e w28 ⟨rfl, hb⟩; refine ⟨_, rfl, ?_⟩; replace BK283 := bb BK283 hb; replace BK284 := bb BK284 hb; replace BK285 := bb BK285 hb; replace BK289 := bb BK289 hb; replace BK293 := bpb BK293 hb #[.int .u64 t291, .int .u64 t292]; replace HB := bs HB hb; (try clear hb); (try clear hb2); (try clear hk); (try clear hi); obtain ⟨hcz29_0, hcz29_1, hfz29_0, hfz29_1⟩ := cz2 BK285))
  refine bodyPost_ret (results_ct rfl _ _ gb285 35 #[.int .i64 t294, .int .u64 t295] (0, 0) _ rfl (bp BK285) Try.underlying35 rfl (by kernel_rfl)) rfl ?_
  exact ⟨by first | rfl | (simp [errW_none, errW_some] <;> rfl) | (simp [*, errW_none, errW_some] <;> rfl), hq HB⟩

/-! ### corebankref01_times: function 67 -/
def corebankref01_times.l0 : Nat → Int → Bool → Int → Int → Int → Int → Int → Option (Int × Int × Bool)
  | 0, _, _, _, _, _, _, _ => none
  | k + 1, x1, x7, x8, x298000, x298001, x300000, x300001 => if x8 < 64 then ((corebankref01_plus.f x300000 x300001 x300000 x300001).bind fun bt300 => (if x7 = true then (if (Go.bits .and .u64 x1 9223372036854775808) = 0 then (corebankref01_times.l0 k (IntKind.u64.wrap (x1 * 2)) bt300.2.2 (wrap64 (x8 + 1)) x298000 x298001 bt300.1 bt300.2.1) else ((corebankref01_plus.f bt300.1 bt300.2.1 x298000 x298001).bind fun bt304 => (if bt300.2.2 = true then (corebankref01_times.l0 k (IntKind.u64.wrap (x1 * 2)) bt304.2.2 (wrap64 (x8 + 1)) x298000 x298001 bt304.1 bt304.2.1) else (corebankref01_times.l0 k (IntKind.u64.wrap (x1 * 2)) false (wrap64 (x8 + 1)) x298000 x298001 bt304.1 bt304.2.1)))) else (if (Go.bits .and .u64 x1 9223372036854775808) = 0 then (corebankref01_times.l0 k (IntKind.u64.wrap (x1 * 2)) false (wrap64 (x8 + 1)) x298000 x298001 bt300.1 bt300.2.1) else ((corebankref01_plus.f bt300.1 bt300.2.1 x298000 x298001).bind fun bt307 => (corebankref01_times.l0 k (IntKind.u64.wrap (x1 * 2)) false (wrap64 (x8 + 1)) x298000 x298001 bt307.1 bt307.2.1))))) else (some (x300000, x300001, x7))
def corebankref01_times.f (k : Nat) (a0_0 : Int) (a0_1 : Int) (a1 : Int) : Option (Int × Int × Bool) := corebankref01_times.l0 k a1 true 0 a0_0 a0_1 0 0
theorem corebankref01_times.mono_l : ∀ k, (∀ y0 y1 y2 y3 y4 y5 y6, LeO (corebankref01_times.l0 k y0 y1 y2 y3 y4 y5 y6) (corebankref01_times.l0 (k + 1) y0 y1 y2 y3 y4 y5 y6))
  | 0 => fun _ _ _ _ _ _ _ r h => by simp [corebankref01_times.l0] at h
  | k + 1 => by
    have ih0 := corebankref01_times.mono_l k
    · intro y0 y1 y2 y3 y4 y5 y6
      unfold corebankref01_times.l0
      repeat' first
      | (with_reducible exact ih0 _ _ _ _ _ _ _)
      | (with_reducible exact LeO.refl _)
      | (with_reducible exact LeO.none _)
      | (with_reducible refine LeO.ite ?_ ?_)
      | (with_reducible refine LeO.bind ?_ (fun _ => ?_))
      | exact ih0 _ _ _ _ _ _ _
      | exact LeO.none _
      | refine LeO.ite ?_ ?_
      | refine LeO.bind ?_ (fun _ => ?_)
theorem corebankref01_times.mono : ∀ a0 a1 a2 k, LeO (corebankref01_times.f k a0 a1 a2) (corebankref01_times.f (k + 1) a0 a1 a2) := by
  intro a0 a1 a2 k
  have ih0 := corebankref01_times.mono_l k
  unfold corebankref01_times.f
  repeat' first
      | (with_reducible exact ih0 _ _ _ _ _ _ _)
      | (with_reducible exact LeO.refl _)
      | (with_reducible exact LeO.none _)
      | (with_reducible refine LeO.ite ?_ ?_)
      | (with_reducible refine LeO.bind ?_ (fun _ => ?_))
      | exact ih0 _ _ _ _ _ _ _
      | exact LeO.none _
      | refine LeO.ite ?_ ?_
      | refine LeO.bind ?_ (fun _ => ?_)
set_option maxHeartbeats 8000000 in
set_option maxRecDepth 100000 in
theorem corebankref01_times.calls (k : Nat) (a0_0 : Int) (a0_1 : Int) (a1 : Int) (r1 : Int) (r2 : Int) (r3 : Bool) (w : World) (h : corebankref01_times.f k a0_0 a0_1 a1 = some (r1, r2, r3)) :
    Calls Try.prog 67 #[.agg #[.int .u64 a0_0, .int .u64 a0_1], .int .u64 a1] w fun e w' => e = .returned (.tuple #[.agg #[.int .u64 r1, .int .u64 r2], .bool r3]) ∧ Below w.heap.size w w' := by
  have hu89 := Try.underlying89
  have HB := Aside0.mk (Below.refl w.heap.size w)
  have H : (corebankref01_times.l0 k a1 true 0 a0_0 a0_1 0 0) = some (r1, r2, r3) := h
  clear h
  have H' := Aside0.mk H
  clear H
  go_enter Try.func67, Try.ntmps67
  go_wp2_with (first | ((with_reducible refine gate_dst (N := 2) rfl ?_); refine box_event ?hg (N := 2) ?hd (cs := #[.int .u64 a0_0, .int .u64 a0_1]) (t := 89) ?hr ?_; (case hd => rfl); (case hg => rfl); (case hr => first | (go_simp; done) | (go_simp; rfl)); intro gb297 hg w3 hbox hb; have BK297 := Aside0.mk (hbox); have GW297 := ge HB hg; have GE297 := ge HB hg; replace HB := bs HB hb; clear hb hbox hg) | ((with_reducible refine gate_dst (N := 4) rfl ?_); refine box_event ?hg (N := 4) ?hd (cs := #[.int .u64 0, .int .u64 0]) (t := 89) ?hr ?_; (case hd => rfl); (case hg => rfl); (case hr => first | (go_simp; done) | (go_simp; rfl)); intro gb298 hg w4 hbox hb; have BK298 := Aside0.mk (hbox); have GW298 := ge HB hg; have GE298 := ge HB hg; have NB297_298 := nl BK297 hg; have NB298_297 := ng NB297_298; replace BK297 := bb BK297 hb; replace HB := bs HB hb; clear hb hbox hg) | ((with_reducible refine gate_dst (N := 6) rfl ?_); refine box_event ?hg (N := 6) ?hd (cs := #[.int .u64 0, .int .u64 0]) (t := 89) ?hr ?_; (case hd => rfl); (case hg => rfl); (case hr => first | (go_simp; done) | (go_simp; rfl)); intro gb299 hg w5 hbox hb; have BK299 := Aside0.mk (hbox); have GW299 := ge HB hg; have GE299 := ge HB hg; have NB297_299 := nl BK297 hg; have NB299_297 := ng NB297_299; have NB298_299 := nl BK298 hg; have NB299_298 := ng NB298_299; replace BK297 := bb BK297 hb; replace BK298 := bb BK298 hb; replace HB := bs HB hb; clear hb hbox hg; have hnb6 := NB299_297.out; have hnc6 := NB297_299.out; have hnb7 := NB299_298.out; have hnc7 := NB298_299.out; obtain ⟨hcz8_0, hcz8_1, hfz8_0, hfz8_1⟩ := cz2 BK299))
  go_loopg [1, 7, 8] k (fun kq v1 v7 v8 w' => ∃ (x1_1 : Int) (x7_1 : Bool) (x8_1 : Int) (x300000_1 : Int) (x300001_1 : Int), v1 = .int .u64 x1_1 ∧ v7 = .bool x7_1 ∧ v8 = .int .i64 x8_1 ∧ Aside0 (corebankref01_times.l0 kq x1_1 x7_1 x8_1 a0_0 a0_1 x300000_1 x300001_1 = some (r1, r2, r3)) ∧ Aside0 (kq ≤ k) ∧ Aside0 (w'.heap[gb297]? = some (.cells #[.int .u64 a0_0, .int .u64 a0_1] 89 (0, 0))) ∧ Aside0 (w'.heap[gb298]? = some (.cells #[.int .u64 0, .int .u64 0] 89 (0, 0))) ∧ Aside0 (w'.heap[gb299]? = some (.cells #[.int .u64 x300000_1, .int .u64 x300001_1] 89 (0, 0))) ∧ Aside0 (Below w.heap.size w w'))
  case atStart => exact ⟨(a1), (true), (0), (0), (0), (by first | rfl | (simp; done) | (simp [*]; done)), (by first | rfl | (simp; done) | (simp [*]; done)), (by first | rfl | (simp; done) | (simp [*]; done)), H', ⟨Nat.le_refl _⟩, ⟨bq BK297⟩, ⟨bq BK298⟩, ⟨bp BK299⟩, ⟨hq HB⟩⟩
  case round =>
    clear H'
    try clear p2
    try clear c6
    try clear c7
    try clear hcz8_0
    try clear hcz8_1
    try clear hfz8_0
    try clear hfz8_1
    obtain ⟨x1_1, x7_1, x8_1, x300000_1, x300001_1, rfl, rfl, rfl, HA, HK1, BK297, BK298, BK299, HB⟩ := hrel
    cases gk with
    | zero => exact absurd HA.out (by simp [corebankref01_times.l0])
    | succ k1 =>
      have H := HA.out
      clear HA
      simp only [corebankref01_times.l0] at H
      by_cases c9 : x8_1 < 64
      · rw [if_pos c9] at H
        have c9b0 : decide (x8_1 < 64) = true := decide_eq_true c9
        clear c9
        replace H := Option.bind_eq_some_iff.mp H
        obtain ⟨⟨t300, t301, t302⟩, A100, H⟩ := H
        replace H : (if x7_1 = true then (if (Go.bits .and .u64 x1_1 9223372036854775808) = 0 then (corebankref01_times.l0 k1 (IntKind.u64.wrap (x1_1 * 2)) t302 (wrap64 (x8_1 + 1)) a0_0 a0_1 t300 t301) else ((corebankref01_plus.f t300 t301 a0_0 a0_1).bind fun bt304 => (if t302 = true then (corebankref01_times.l0 k1 (IntKind.u64.wrap (x1_1 * 2)) bt304.2.2 (wrap64 (x8_1 + 1)) a0_0 a0_1 bt304.1 bt304.2.1) else (corebankref01_times.l0 k1 (IntKind.u64.wrap (x1_1 * 2)) false (wrap64 (x8_1 + 1)) a0_0 a0_1 bt304.1 bt304.2.1)))) else (if (Go.bits .and .u64 x1_1 9223372036854775808) = 0 then (corebankref01_times.l0 k1 (IntKind.u64.wrap (x1_1 * 2)) false (wrap64 (x8_1 + 1)) a0_0 a0_1 t300 t301) else ((corebankref01_plus.f t300 t301 a0_0 a0_1).bind fun bt307 => (corebankref01_times.l0 k1 (IntKind.u64.wrap (x1_1 * 2)) false (wrap64 (x8_1 + 1)) a0_0 a0_1 bt307.1 bt307.2.1)))) = some (r1, r2, r3) := H
        have A10 := Aside0.mk A100
        clear A100
        by_cases c11 : x7_1 = true
        · subst c11
          have H1 : (if (Go.bits .and .u64 x1_1 9223372036854775808) = 0 then (corebankref01_times.l0 k1 (IntKind.u64.wrap (x1_1 * 2)) t302 (wrap64 (x8_1 + 1)) a0_0 a0_1 t300 t301) else ((corebankref01_plus.f t300 t301 a0_0 a0_1).bind fun bt304 => (if t302 = true then (corebankref01_times.l0 k1 (IntKind.u64.wrap (x1_1 * 2)) bt304.2.2 (wrap64 (x8_1 + 1)) a0_0 a0_1 bt304.1 bt304.2.1) else (corebankref01_times.l0 k1 (IntKind.u64.wrap (x1_1 * 2)) false (wrap64 (x8_1 + 1)) a0_0 a0_1 bt304.1 bt304.2.1)))) = some (r1, r2, r3) := by rw [if_pos rfl] at H; exact H
          clear H
          have H := H1
          clear H1
          by_cases c12 : (Go.bits .and .u64 x1_1 9223372036854775808) = 0
          · rw [if_pos c12] at H
            have c12b0 : ((Go.bits .and .u64 x1_1 9223372036854775808) == 0) = true := beq_iff_eq.mpr c12
            have c12b1 : ((Go.bits .and .u64 x1_1 9223372036854775808) != 0) = false := bne_eq_false_iff_eq.mpr c12
            clear c12
            have H' := Aside0.mk H
            clear H
            have hnb13 := NB299_297.out
            have hnc13 := NB297_299.out
            have hnb14 := NB299_298.out
            have hnc14 := NB298_299.out
            obtain ⟨hcz15_0, hcz15_1, hfz15_0, hfz15_1⟩ := cz2 BK299
            go_wp2_with (first | ((with_reducible refine gate_callee (f := 70) rfl ?_); refine goesL_ (some 19) rfl rfl Try.func70 (by kernel_rfl) rfl #[.agg #[.int .u64 x300000_1, .int .u64 x300001_1], .agg #[.int .u64 x300000_1, .int .u64 x300001_1]] rfl zm ?_; (with_reducible refine (corebankref01_plus.calls x300000_1 x300001_1 x300000_1 x300001_1 t300 t301 t302 _ A10.out).mono ?_); rintro e w16 ⟨rfl, hb⟩; refine ⟨_, rfl, ?_⟩; replace BK297 := bb BK297 hb; replace BK298 := bb BK298 hb; replace BK299 := bb BK299 hb; replace HB := bs HB hb; (try clear hb); (try clear hb2); (try clear hk); (try clear hi)) | ((with_reducible refine gate_dst (N := 9) rfl ?_); refine box_event ?hg (N := 9) ?hd (cs := #[.int .u64 0, .int .u64 0]) (t := 89) ?hr ?_; (case hd => rfl); (case hg => rfl); (case hr => first | (go_simp; done) | (go_simp; rfl)); intro gb303 hg w17 hbox hb; have BK303 := Aside0.mk (hbox); have GW303 := ge HB hg; have GE303 := ge HB hg; have NB297_303 := nl BK297 hg; have NB303_297 := ng NB297_303; have NB298_303 := nl BK298 hg; have NB303_298 := ng NB298_303; have NB299_303 := nl BK299 hg; have NB303_299 := ng NB299_303; replace BK297 := bb BK297 hb; replace BK298 := bb BK298 hb; replace BK299 := bb BK299 hb; replace HB := bs HB hb; clear hb hbox hg; have hnb18 := NB303_297.out; have hnc18 := NB297_303.out; have hnb19 := NB303_298.out; have hnc19 := NB298_303.out; have hnb20 := NB303_299.out; have hnc20 := NB299_303.out; obtain ⟨hcz21_0, hcz21_1, hfz21_0, hfz21_1⟩ := cz2 BK303; obtain ⟨hcz22_0, hcz22_1, hfz22_0, hfz22_1⟩ := cz2 BK299))
            go_roundg k1
            case measure => have := HK1.out; omega
            case rel => exact ⟨(IntKind.u64.wrap (x1_1 * 2)), (t302), (wrap64 (x8_1 + 1)), (t300), (t301), (by first | rfl | (simp; done) | (simp [*]; done)), (by first | rfl | (simp; done) | (simp [*]; done)), (by first | rfl | (simp; done) | (simp [*]; done)), H', ⟨by have := HK1.out; omega⟩, ⟨bq BK297⟩, ⟨bq BK298⟩, ⟨bp BK299⟩, ⟨hq HB⟩⟩
          · rw [if_neg c12] at H
            have c12b0 : ((Go.bits .and .u64 x1_1 9223372036854775808) == 0) = false := beq_eq_false_iff_ne.mpr c12
            have c12b1 : ((Go.bits .and .u64 x1_1 9223372036854775808) != 0) = true := bne_iff_ne.mpr c12
            replace H := Option.bind_eq_some_iff.mp H
            obtain ⟨⟨t304, t305, t306⟩, A230, H⟩ := H
            replace H : (if t302 = true then (corebankref01_times.l0 k1 (IntKind.u64.wrap (x1_1 * 2)) t306 (wrap64 (x8_1 + 1)) a0_0 a0_1 t304 t305) else (corebankref01_times.l0 k1 (IntKind.u64.wrap (x1_1 * 2)) false (wrap64 (x8_1 + 1)) a0_0 a0_1 t304 t305)) = some (r1, r2, r3) := H
            have A23 := Aside0.mk A230
            clear A230
            by_cases c24 : t302 = true
            · subst c24
              have H1 : (corebankref01_times.l0 k1 (IntKind.u64.wrap (x1_1 * 2)) t306 (wrap64 (x8_1 + 1)) a0_0 a0_1 t304 t305) = some (r1, r2, r3) := by rw [if_pos rfl] at H; exact H
              clear H
              have H := H1
              clear H1
              have H' := Aside0.mk H
              clear H
              have hnb25 := NB299_297.out
              have hnc25 := NB297_299.out
              have hnb26 := NB299_298.out
              have hnc26 := NB298_299.out
              obtain ⟨hcz27_0, hcz27_1, hfz27_0, hfz27_1⟩ := cz2 BK299
              go_wp2_with (first | ((with_reducible refine gate_callee (f := 70) rfl ?_); refine goesL_ (some 19) rfl rfl Try.func70 (by kernel_rfl) rfl #[.agg #[.int .u64 x300000_1, .int .u64 x300001_1], .agg #[.int .u64 x300000_1, .int .u64 x300001_1]] rfl zm ?_; (with_reducible refine (corebankref01_plus.calls x300000_1 x300001_1 x300000_1 x300001_1 t300 t301 true _ A10.out).mono ?_); rintro e w28 ⟨rfl, hb⟩; refine ⟨_, rfl, ?_⟩; replace BK297 := bb BK297 hb; replace BK298 := bb BK298 hb; replace BK299 := bb BK299 hb; replace HB := bs HB hb; (try clear hb); (try clear hb2); (try clear hk); (try clear hi)) | ((with_reducible refine gate_dst (N := 9) rfl ?_); refine box_event ?hg (N := 9) ?hd (cs := #[.int .u64 0, .int .u64 0]) (t := 89) ?hr ?_; (case hd => rfl); (case hg => rfl); (case hr => first | (go_simp; done) | (go_simp; rfl)); intro gb303 hg w29 hbox hb; have BK303 := Aside0.mk (hbox); have GW303 := ge HB hg; have GE303 := ge HB hg; have NB297_303 := nl BK297 hg; have NB303_297 := ng NB297_303; have NB298_303 := nl BK298 hg; have NB303_298 := ng NB298_303; have NB299_303 := nl BK299 hg; have NB303_299 := ng NB299_303; replace BK297 := bb BK297 hb; replace BK298 := bb BK298 hb; replace BK299 := bb BK299 hb; replace HB := bs HB hb; clear hb hbox hg; have hnb30 := NB303_297.out; have hnc30 := NB297_303.out; have hnb31 := NB303_298.out; have hnc31 := NB298_303.out; have hnb32 := NB303_299.out; have hnc32 := NB299_303.out; obtain ⟨hcz33_0, hcz33_1, hfz33_0, hfz33_1⟩ := cz2 BK303; obtain ⟨hcz34_0, hcz34_1, hfz34_0, hfz34_1⟩ := cz2 BK299; have hnb35 := NB297_298.out; have hnc35 := NB298_297.out; obtain ⟨hcz36_0, hcz36_1, hfz36_0, hfz36_1⟩ := cz2 BK297) | ((with_reducible refine gate_callee (f := 70) rfl ?_); refine goesL_ (some 33) rfl rfl Try.func70 (by kernel_rfl) rfl #[.agg #[.int .u64 t300, .int .u64 t301], .agg #[.int .u64 a0_0, .int .u64 a0_1]] rfl zm ?_; (with_reducible refine (corebankref01_plus.calls t300 t301 a0_0 a0_1 t304 t305 t306 _ A23.out).mono ?_); rintro e w37 ⟨rfl, hb⟩; refine ⟨_, rfl, ?_⟩; replace BK297 := bb BK297 hb; replace BK298 := bb BK298 hb; replace BK299 := bpb BK299 hb #[.int .u64 t300, .int .u64 t301]; replace BK303 := bpb BK303 hb #[.int .u64 t300, .int .u64 t301]; replace HB := bs HB hb; (try clear hb); (try clear hb2); (try clear hk); (try clear hi); obtain ⟨hcz38_0, hcz38_1, hfz38_0, hfz38_1⟩ := cz2 BK303; obtain ⟨hcz39_0, hcz39_1, hfz39_0, hfz39_1⟩ := cz2 BK299))
              go_roundg k1
              case measure => have := HK1.out; omega
              case rel => exact ⟨(IntKind.u64.wrap (x1_1 * 2)), (t306), (wrap64 (x8_1 + 1)), (t304), (t305), (by first | rfl | (simp; done) | (simp [*]; done)), (by first | rfl | (simp; done) | (simp [*]; done)), (by first | rfl | (simp; done) | (simp [*]; done)), H', ⟨by have := HK1.out; omega⟩, ⟨bq BK297⟩, ⟨bq BK298⟩, ⟨bp BK299⟩, ⟨hq HB⟩⟩
            · replace c24 := Bool.eq_false_iff.mpr c24
              subst c24
              have H1 : (corebankref01_times.l0 k1 (IntKind.u64.wrap (x1_1 * 2)) false (wrap64 (x8_1 + 1)) a0_0 a0_1 t304 t305) = some (r1, r2, r3) := by rw [if_neg (show ¬ (false = true) by decide)] at H; exact H
              clear H
              have H := H1
              clear H1
              have H' := Aside0.mk H
              clear H
              have hnb40 := NB299_297.out
              have hnc40 := NB297_299.out
              have hnb41 := NB299_298.out
              have hnc41 := NB298_299.out
              obtain ⟨hcz42_0, hcz42_1, hfz42_0, hfz42_1⟩ := cz2 BK299
              go_wp2_with (first | ((with_reducible refine gate_callee (f := 70) rfl ?_); refine goesL_ (some 19) rfl rfl Try.func70 (by kernel_rfl) rfl #[.agg #[.int .u64 x300000_1, .int .u64 x300001_1], .agg #[.int .u64 x300000_1, .int .u64 x300001_1]] rfl zm ?_; (with_reducible refine (corebankref01_plus.calls x300000_1 x300001_1 x300000_1 x300001_1 t300 t301 false _ A10.out).mono ?_); rintro e w43 ⟨rfl, hb⟩; refine ⟨_, rfl, ?_⟩; replace BK297 := bb BK297 hb; replace BK298 := bb BK298 hb; replace BK299 := bb BK299 hb; replace HB := bs HB hb; (try clear hb); (try clear hb2); (try clear hk); (try clear hi)) | ((with_reducible refine gate_dst (N := 9) rfl ?_); refine box_event ?hg (N := 9) ?hd (cs := #[.int .u64 0, .int .u64 0]) (t := 89) ?hr ?_; (case hd => rfl); (case hg => rfl); (case hr => first | (go_simp; done) | (go_simp; rfl)); intro gb303 hg w44 hbox hb; have BK303 := Aside0.mk (hbox); have GW303 := ge HB hg; have GE303 := ge HB hg; have NB297_303 := nl BK297 hg; have NB303_297 := ng NB297_303; have NB298_303 := nl BK298 hg; have NB303_298 := ng NB298_303; have NB299_303 := nl BK299 hg; have NB303_299 := ng NB299_303; replace BK297 := bb BK297 hb; replace BK298 := bb BK298 hb; replace BK299 := bb BK299 hb; replace HB := bs HB hb; clear hb hbox hg; have hnb45 := NB303_297.out; have hnc45 := NB297_303.out; have hnb46 := NB303_298.out; have hnc46 := NB298_303.out; have hnb47 := NB303_299.out; have hnc47 := NB299_303.out; obtain ⟨hcz48_0, hcz48_1, hfz48_0, hfz48_1⟩ := cz2 BK303; obtain ⟨hcz49_0, hcz49_1, hfz49_0, hfz49_1⟩ := cz2 BK299; have hnb50 := NB297_298.out; have hnc50 := NB298_297.out; obtain ⟨hcz51_0, hcz51_1, hfz51_0, hfz51_1⟩ := cz2 BK297) | ((with_reducible refine gate_callee (f := 70) rfl ?_); refine goesL_ (some 33) rfl rfl Try.func70 (by kernel_rfl) rfl #[.agg #[.int .u64 t300, .int .u64 t301], .agg #[.int .u64 a0_0, .int .u64 a0_1]] rfl zm ?_; (with_reducible refine (corebankref01_plus.calls t300 t301 a0_0 a0_1 t304 t305 t306 _ A23.out).mono ?_); rintro e w52 ⟨rfl, hb⟩; refine ⟨_, rfl, ?_⟩; replace BK297 := bb BK297 hb; replace BK298 := bb BK298 hb; replace BK299 := bpb BK299 hb #[.int .u64 t300, .int .u64 t301]; replace BK303 := bpb BK303 hb #[.int .u64 t300, .int .u64 t301]; replace HB := bs HB hb; (try clear hb); (try clear hb2); (try clear hk); (try clear hi); obtain ⟨hcz53_0, hcz53_1, hfz53_0, hfz53_1⟩ := cz2 BK303; obtain ⟨hcz54_0, hcz54_1, hfz54_0, hfz54_1⟩ := cz2 BK299))
              go_roundg k1
              case measure => have := HK1.out; omega
              case rel => exact ⟨(IntKind.u64.wrap (x1_1 * 2)), (false), (wrap64 (x8_1 + 1)), (t304), (t305), (by first | rfl | (simp; done) | (simp [*]; done)), (by first | rfl | (simp; done) | (simp [*]; done)), (by first | rfl | (simp; done) | (simp [*]; done)), H', ⟨by have := HK1.out; omega⟩, ⟨bq BK297⟩, ⟨bq BK298⟩, ⟨bp BK299⟩, ⟨hq HB⟩⟩
        · replace c11 := Bool.eq_false_iff.mpr c11
          subst c11
          have H1 : (if (Go.bits .and .u64 x1_1 9223372036854775808) = 0 then (corebankref01_times.l0 k1 (IntKind.u64.wrap (x1_1 * 2)) false (wrap64 (x8_1 + 1)) a0_0 a0_1 t300 t301) else ((corebankref01_plus.f t300 t301 a0_0 a0_1).bind fun bt307 => (corebankref01_times.l0 k1 (IntKind.u64.wrap (x1_1 * 2)) false (wrap64 (x8_1 + 1)) a0_0 a0_1 bt307.1 bt307.2.1))) = some (r1, r2, r3) := by rw [if_neg (show ¬ (false = true) by decide)] at H; exact H
          clear H
          have H := H1
          clear H1
          by_cases c55 : (Go.bits .and .u64 x1_1 9223372036854775808) = 0
          · rw [if_pos c55] at H
            have c55b0 : ((Go.bits .and .u64 x1_1 9223372036854775808) == 0) = true := beq_iff_eq.mpr c55
            have c55b1 : ((Go.bits .and .u64 x1_1 9223372036854775808) != 0) = false := bne_eq_false_iff_eq.mpr c55
            clear c55
            have H' := Aside0.mk H
            clear H
            have hnb56 := NB299_297.out
            have hnc56 := NB297_299.out
            have hnb57 := NB299_298.out
            have hnc57 := NB298_299.out
            obtain ⟨hcz58_0, hcz58_1, hfz58_0, hfz58_1⟩ := cz2 BK299
            go_wp2_with (first | ((with_reducible refine gate_callee (f := 70) rfl ?_); refine goesL_ (some 19) rfl rfl Try.func70 (by kernel_rfl) rfl #[.agg #[.int .u64 x300000_1, .int .u64 x300001_1], .agg #[.int .u64 x300000_1, .int .u64 x300001_1]] rfl zm ?_; (with_reducible refine (corebankref01_plus.calls x300000_1 x300001_1 x300000_1 x300001_1 t300 t301 t302 _ A10.out).mono ?_); rintro e w59 ⟨rfl, hb⟩; refine ⟨_, rfl, ?_⟩; replace BK297 := bb BK297 hb; replace BK298 := bb BK298 hb; replace BK299 := bb BK299 hb; replace HB := bs HB hb; (try clear hb); (try clear hb2); (try clear hk); (try clear hi)) | ((with_reducible refine gate_dst (N := 9) rfl ?_); refine box_event ?hg (N := 9) ?hd (cs := #[.int .u64 0, .int .u64 0]) (t := 89) ?hr ?_; (case hd => rfl); (case hg => rfl); (case hr => first | (go_simp; done) | (go_simp; rfl)); intro gb303 hg w60 hbox hb; have BK303 := Aside0.mk (hbox); have GW303 := ge HB hg; have GE303 := ge HB hg; have NB297_303 := nl BK297 hg; have NB303_297 := ng NB297_303; have NB298_303 := nl BK298 hg; have NB303_298 := ng NB298_303; have NB299_303 := nl BK299 hg; have NB303_299 := ng NB299_303; replace BK297 := bb BK297 hb; replace BK298 := bb BK298 hb; replace BK299 := bb BK299 hb; replace HB := bs HB hb; clear hb hbox hg; have hnb61 := NB303_297.out; have hnc61 := NB297_303.out; have hnb62 := NB303_298.out; have hnc62 := NB298_303.out; have hnb63 := NB303_299.out; have hnc63 := NB299_303.out; obtain ⟨hcz64_0, hcz64_1, hfz64_0, hfz64_1⟩ := cz2 BK303; obtain ⟨hcz65_0, hcz65_1, hfz65_0, hfz65_1⟩ := cz2 BK299))
            go_roundg k1
            case measure => have := HK1.out; omega
            case rel => exact ⟨(IntKind.u64.wrap (x1_1 * 2)), (false), (wrap64 (x8_1 + 1)), (t300), (t301), (by first | rfl | (simp; done) | (simp [*]; done)), (by first | rfl | (simp; done) | (simp [*]; done)), (by first | rfl | (simp; done) | (simp [*]; done)), H', ⟨by have := HK1.out; omega⟩, ⟨bq BK297⟩, ⟨bq BK298⟩, ⟨bp BK299⟩, ⟨hq HB⟩⟩
          · rw [if_neg c55] at H
            have c55b0 : ((Go.bits .and .u64 x1_1 9223372036854775808) == 0) = false := beq_eq_false_iff_ne.mpr c55
            have c55b1 : ((Go.bits .and .u64 x1_1 9223372036854775808) != 0) = true := bne_iff_ne.mpr c55
            replace H := Option.bind_eq_some_iff.mp H
            obtain ⟨⟨t307, t308, t309⟩, A660, H⟩ := H
            replace H : (corebankref01_times.l0 k1 (IntKind.u64.wrap (x1_1 * 2)) false (wrap64 (x8_1 + 1)) a0_0 a0_1 t307 t308) = some (r1, r2, r3) := H
            have A66 := Aside0.mk A660
            clear A660
            have H' := Aside0.mk H
            clear H
            have hnb67 := NB299_297.out
            have hnc67 := NB297_299.out
            have hnb68 := NB299_298.out
            have hnc68 := NB298_299.out
            obtain ⟨hcz69_0, hcz69_1, hfz69_0, hfz69_1⟩ := cz2 BK299
            go_wp2_with (first | ((with_reducible refine gate_callee (f := 70) rfl ?_); refine goesL_ (some 19) rfl rfl Try.func70 (by kernel_rfl) rfl #[.agg #[.int .u64 x300000_1, .int .u64 x300001_1], .agg #[.int .u64 x300000_1, .int .u64 x300001_1]] rfl zm ?_; (with_reducible refine (corebankref01_plus.calls x300000_1 x300001_1 x300000_1 x300001_1 t300 t301 t302 _ A10.out).mono ?_); rintro e w70 ⟨rfl, hb⟩; refine ⟨_, rfl, ?_⟩; replace BK297 := bb BK297 hb; replace BK298 := bb BK298 hb; replace BK299 := bb BK299 hb; replace HB := bs HB hb; (try clear hb); (try clear hb2); (try clear hk); (try clear hi)) | ((with_reducible refine gate_dst (N := 9) rfl ?_); refine box_event ?hg (N := 9) ?hd (cs := #[.int .u64 0, .int .u64 0]) (t := 89) ?hr ?_; (case hd => rfl); (case hg => rfl); (case hr => first | (go_simp; done) | (go_simp; rfl)); intro gb303 hg w71 hbox hb; have BK303 := Aside0.mk (hbox); have GW303 := ge HB hg; have GE303 := ge HB hg; have NB297_303 := nl BK297 hg; have NB303_297 := ng NB297_303; have NB298_303 := nl BK298 hg; have NB303_298 := ng NB298_303; have NB299_303 := nl BK299 hg; have NB303_299 := ng NB299_303; replace BK297 := bb BK297 hb; replace BK298 := bb BK298 hb; replace BK299 := bb BK299 hb; replace HB := bs HB hb; clear hb hbox hg; have hnb72 := NB303_297.out; have hnc72 := NB297_303.out; have hnb73 := NB303_298.out; have hnc73 := NB298_303.out; have hnb74 := NB303_299.out; have hnc74 := NB299_303.out; obtain ⟨hcz75_0, hcz75_1, hfz75_0, hfz75_1⟩ := cz2 BK303; obtain ⟨hcz76_0, hcz76_1, hfz76_0, hfz76_1⟩ := cz2 BK299; have hnb77 := NB297_298.out; have hnc77 := NB298_297.out; obtain ⟨hcz78_0, hcz78_1, hfz78_0, hfz78_1⟩ := cz2 BK297) | ((with_reducible refine gate_callee (f := 70) rfl ?_); refine goesL_ (some 33) rfl rfl Try.func70 (by kernel_rfl) rfl #[.agg #[.int .u64 t300, .int .u64 t301], .agg #[.int .u64 a0_0, .int .u64 a0_1]] rfl zm ?_; (with_reducible refine (corebankref01_plus.calls t300 t301 a0_0 a0_1 t307 t308 t309 _ A66.out).mono ?_); rintro e w79 ⟨rfl, hb⟩; refine ⟨_, rfl, ?_⟩; replace BK297 := bb BK297 hb; replace BK298 := bb BK298 hb; replace BK299 := bpb BK299 hb #[.int .u64 t300, .int .u64 t301]; replace BK303 := bpb BK303 hb #[.int .u64 t300, .int .u64 t301]; replace HB := bs HB hb; (try clear hb); (try clear hb2); (try clear hk); (try clear hi); obtain ⟨hcz80_0, hcz80_1, hfz80_0, hfz80_1⟩ := cz2 BK303; obtain ⟨hcz81_0, hcz81_1, hfz81_0, hfz81_1⟩ := cz2 BK299))
            go_roundg k1
            case measure => have := HK1.out; omega
            case rel => exact ⟨(IntKind.u64.wrap (x1_1 * 2)), (false), (wrap64 (x8_1 + 1)), (t307), (t308), (by first | rfl | (simp; done) | (simp [*]; done)), (by first | rfl | (simp; done) | (simp [*]; done)), (by first | rfl | (simp; done) | (simp [*]; done)), H', ⟨by have := HK1.out; omega⟩, ⟨bq BK297⟩, ⟨bq BK298⟩, ⟨bp BK299⟩, ⟨hq HB⟩⟩
      · rw [if_neg c9] at H
        have c9b0 : decide (x8_1 < 64) = false := decide_eq_false c9
        clear c9
        simp only [Option.some.injEq, Prod.mk.injEq] at H
        obtain ⟨rfl, rfl, rfl⟩ := H
        have hnb82 := NB299_297.out
        have hnc82 := NB297_299.out
        have hnb83 := NB299_298.out
        have hnc83 := NB298_299.out
        obtain ⟨hcz84_0, hcz84_1, hfz84_0, hfz84_1⟩ := cz2 BK299
        have hnb85 := NB298_297.out
        have hnc85 := NB297_298.out
        obtain ⟨hcz86_0, hcz86_1, hfz86_0, hfz86_1⟩ := cz2 BK298
        go_wp2
        refine bodyPost_ret (results_ct rfl _ _ gb298 89 #[.int .u64 x300000_1, .int .u64 x300001_1] (0, 0) _ rfl (bp BK298) Try.underlying89 rfl (by kernel_rfl)) rfl ?_
        exact ⟨by first | rfl | (simp [errW_none, errW_some] <;> rfl) | (simp [*, errW_none, errW_some] <;> rfl), hq HB⟩

/-! ### corebankref01_size: function 68 -/
def corebankref01_size.f (a0 : Int) : Option (Int) := if a0 < 0 then (some (IntKind.u64.wrap ((not64 (IntKind.u64.wrap (a0))) + 1))) else (some (IntKind.u64.wrap (a0)))
set_option maxHeartbeats 8000000 in
set_option maxRecDepth 100000 in
theorem corebankref01_size.calls (a0 : Int) (r : Int) (w : World) (h : corebankref01_size.f a0 = some r) :
    Calls Try.prog 68 #[.int .i64 a0] w fun e w' => e = .returned (.int .u64 r) ∧ Drawn0 w w' := by
  have H : (if a0 < 0 then (some (IntKind.u64.wrap ((not64 (IntKind.u64.wrap (a0))) + 1))) else (some (IntKind.u64.wrap (a0)))) = some r := h
  clear h
  by_cases c2 : a0 < 0
  · rw [if_pos c2] at H
    have c2b0 : decide (a0 < 0) = true := decide_eq_true c2
    clear c2
    obtain rfl := Option.some.inj H
    go_enter Try.func68, Try.ntmps68
    go_wp2
    go_ret
    exact ⟨by first | rfl | (simp; done) | (simp [*]; done), by repeat (first | exact Drawn0.refl _ | apply Drawn0.step)⟩
  · rw [if_neg c2] at H
    have c2b0 : decide (a0 < 0) = false := decide_eq_false c2
    clear c2
    obtain rfl := Option.some.inj H
    go_enter Try.func68, Try.ntmps68
    go_wp2
    go_ret
    exact ⟨by first | rfl | (simp; done) | (simp [*]; done), by repeat (first | exact Drawn0.refl _ | apply Drawn0.step)⟩

end Go.Proofs.Ytlmabdiodopidaa.P
