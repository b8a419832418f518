/- Texts of this seat, joined: Px26, Tot, Day, Ser, SamA, Box, Live27, Fnd, R24, RAt, Px27, Px28. Lemmas for the claim's theorem. -/
import Derived.OwnWalk
import Derived.Deep.RegionHeld3
import Derived.Test.YtlmabdiodopidaaJ9
section
set_option linter.unusedVariables false
set_option linter.unusedSimpArgs false
namespace Go.Proofs.Ytlmabdiodopidaa.P
open Go.Proofs.Ytlmabdiodopidaa.G
attribute [local go_sem high] un_not64 un_noti run_add64
open Go.RowKit Go.Proofs.YtlmabdiodopidaaW.PrintWords Go.Proofs.YtlmabdiodopidaaW.PrintLast Go.Proofs.YtlmabdiodopidaaW.PrintMore
attribute [local go_sem] max2_int min2_int max_two min_two max_three min_three max_four min_four   -- for this text's walks alone
set_option linter.unusedVariables false
set_option linter.unusedSimpArgs false

/-! ### corebankref01_Add: function 28 -/
def corebankref01_Add.f (a0_0 : Int) (a0_1 : Int) (a1_0 : Int) (a1_1 : Int) : Option (Int × Int × Int) := (corebankref01_Split.f a0_0 a0_1).bind fun bt328 => ((corebankref01_Split.f a1_0 a1_1).bind fun bt332 => ((corebankref01_sum.f bt328.1 bt328.2.1 bt328.2.2 bt332.1 bt332.2.1 bt332.2.2).bind fun bt336 => (some (bt336.1, bt336.2.1, bt336.2.2))))
set_option maxHeartbeats 8000000 in
set_option maxRecDepth 100000 in
theorem corebankref01_Add.calls (a0_0 : Int) (a0_1 : Int) (a1_0 : Int) (a1_1 : Int) (r1 : Int) (r2 : Int) (r3 : Int) (w : World) (h : corebankref01_Add.f a0_0 a0_1 a1_0 a1_1 = some (r1, r2, r3)) :
    Calls Try.prog 28 #[.agg #[.int .i64 a0_0, .int .u64 a0_1], .agg #[.int .i64 a1_0, .int .u64 a1_1]] w fun e w' => e = .returned (.tuple #[.agg #[.int .i64 r1, .int .u64 r2], .int .i64 r3]) ∧ Below w.heap.size w w' := by
  have hu35 := Try.underlying35
  have hu89 := Try.underlying89
  have HB := Aside0.mk (Below.refl w.heap.size w)
  have H : ((corebankref01_Split.f a0_0 a0_1).bind fun bt328 => ((corebankref01_Split.f a1_0 a1_1).bind fun bt332 => ((corebankref01_sum.f bt328.1 bt328.2.1 bt328.2.2 bt332.1 bt332.2.1 bt332.2.2).bind fun bt336 => (some (bt336.1, bt336.2.1, bt336.2.2))))) = some (r1, r2, r3) := h
  clear h
  replace H := Option.bind_eq_some_iff.mp H
  obtain ⟨⟨t328, t329, t330⟩, A30, H⟩ := H
  replace H : ((corebankref01_Split.f a1_0 a1_1).bind fun bt332 => ((corebankref01_sum.f t328 t329 t330 bt332.1 bt332.2.1 bt332.2.2).bind fun bt336 => (some (bt336.1, bt336.2.1, bt336.2.2)))) = some (r1, r2, r3) := H
  have A3 := Aside0.mk A30
  clear A30
  replace H := Option.bind_eq_some_iff.mp H
  obtain ⟨⟨t332, t333, t334⟩, A40, H⟩ := H
  replace H : ((corebankref01_sum.f t328 t329 t330 t332 t333 t334).bind fun bt336 => (some (bt336.1, bt336.2.1, bt336.2.2))) = some (r1, r2, r3) := H
  have A4 := Aside0.mk A40
  clear A40
  replace H := Option.bind_eq_some_iff.mp H
  obtain ⟨⟨t336, t337, t338⟩, A50, H⟩ := H
  replace H : (some (t336, t337, t338)) = some (r1, r2, r3) := H
  have A5 := Aside0.mk A50
  clear A50
  simp only [Option.some.injEq, Prod.mk.injEq] at H
  obtain ⟨rfl, rfl, rfl⟩ := H
  go_enter Try.func28, Try.ntmps28
  go_wp2_with (first | ((with_reducible refine gate_dst (N := 2) rfl ?_); refine box_event ?hg (N := 2) ?hd (cs := #[.int .i64 a0_0, .int .u64 a0_1]) (t := 35) ?hr ?_; (case hd => rfl); (case hg => rfl); (case hr => first | (go_simp; done) | (go_simp; rfl)); intro gb325 hg w6 hbox hb; have BK325 := Aside0.mk (hbox); have GW325 := ge HB hg; have GE325 := ge HB hg; replace HB := bs HB hb; clear hb hbox hg) | ((with_reducible refine gate_dst (N := 3) rfl ?_); refine box_event ?hg (N := 3) ?hd (cs := #[.int .i64 a1_0, .int .u64 a1_1]) (t := 35) ?hr ?_; (case hd => rfl); (case hg => rfl); (case hr => first | (go_simp; done) | (go_simp; rfl)); intro gb326 hg w7 hbox hb; have BK326 := Aside0.mk (hbox); have GW326 := ge HB hg; have GE326 := ge HB hg; have NB325_326 := nl BK325 hg; have NB326_325 := ng NB325_326; replace BK325 := bb BK325 hb; replace HB := bs HB hb; clear hb hbox hg) | ((with_reducible refine gate_dst (N := 4) rfl ?_); refine box_event ?hg (N := 4) ?hd (cs := #[.int .i64 0, .int .u64 0]) (t := 35) ?hr ?_; (case hd => rfl); (case hg => rfl); (case hr => first | (go_simp; done) | (go_simp; rfl)); intro gb327 hg w8 hbox hb; have BK327 := Aside0.mk (hbox); have GW327 := ge HB hg; have GE327 := ge HB hg; have NB325_327 := nl BK325 hg; have NB327_325 := ng NB325_327; have NB326_327 := nl BK326 hg; have NB327_326 := ng NB326_327; replace BK325 := bb BK325 hb; replace BK326 := bb BK326 hb; replace HB := bs HB hb; clear hb hbox hg; have hnb9 := NB325_326.out; have hnc9 := NB326_325.out; have hnb10 := NB325_327.out; have hnc10 := NB327_325.out; obtain ⟨hcz11_0, hcz11_1, hfz11_0, hfz11_1⟩ := cz2 BK325) | ((with_reducible refine gate_callee (f := 48) rfl ?_); refine goesL_ (some 12) rfl rfl Try.func48 (by kernel_rfl) rfl #[.agg #[.int .i64 a0_0, .int .u64 a0_1]] rfl zm ?_; (with_reducible refine (corebankref01_Split.calls a0_0 a0_1 t328 t329 t330 _ A3.out).mono ?_); rintro e w12 ⟨rfl, hb⟩; refine ⟨_, rfl, ?_⟩; replace BK325 := bb BK325 hb; replace BK326 := bb BK326 hb; replace BK327 := bb BK327 hb; replace HB := bs HB hb; (try clear hb); (try clear hb2); (try clear hk); (try clear hi)) | ((with_reducible refine gate_dst (N := 7) rfl ?_); refine box_event ?hg (N := 7) ?hd (cs := #[.int .u64 0, .int .u64 0]) (t := 89) ?hr ?_; (case hd => rfl); (case hg => rfl); (case hr => first | (go_simp; done) | (go_simp; rfl)); intro gb331 hg w13 hbox hb; have BK331 := Aside0.mk (hbox); have GW331 := ge HB hg; have GE331 := ge HB hg; have NB325_331 := nl BK325 hg; have NB331_325 := ng NB325_331; have NB326_331 := nl BK326 hg; have NB331_326 := ng NB326_331; have NB327_331 := nl BK327 hg; have NB331_327 := ng NB327_331; replace BK325 := bb BK325 hb; replace BK326 := bb BK326 hb; replace BK327 := bb BK327 hb; replace HB := bs HB hb; clear hb hbox hg; have hnb14 := NB331_325.out; have hnc14 := NB325_331.out; have hnb15 := NB331_326.out; have hnc15 := NB326_331.out; have hnb16 := NB331_327.out; have hnc16 := NB327_331.out; obtain ⟨hcz17_0, hcz17_1, hfz17_0, hfz17_1⟩ := cz2 BK331; have hnb18 := NB326_327.out; have hnc18 := NB327_326.out; obtain ⟨hcz19_0, hcz19_1, hfz19_0, hfz19_1⟩ := cz2 BK326) | ((with_reducible refine gate_callee (f := 48) rfl ?_); refine goesL_ (some 17) rfl rfl Try.func48 (by kernel_rfl) rfl #[.agg #[.int .i64 a1_0, .int .u64 a1_1]] rfl zm ?_; (with_reducible refine (corebankref01_Split.calls a1_0 a1_1 t332 t333 t334 _ A4.out).mono ?_); rintro e w20 ⟨rfl, hb⟩; refine ⟨_, rfl, ?_⟩; replace BK325 := bb BK325 hb; replace BK326 := bb BK326 hb; replace BK327 := bb BK327 hb; replace BK331 := bpb BK331 hb #[.int .u64 t329, .int .u64 t330]; replace HB := bs HB hb; (try clear hb); (try clear hb2); (try clear hk); (try clear hi)) | ((with_reducible refine gate_dst (N := 9) rfl ?_); refine box_event ?hg (N := 9) ?hd (cs := #[.int .u64 0, .int .u64 0]) (t := 89) ?hr ?_; (case hd => rfl); (case hg => rfl); (case hr => first | (go_simp; done) | (go_simp; rfl)); intro gb335 hg w21 hbox hb; have BK335 := Aside0.mk (hbox); have GW335 := ge HB hg; have GE335 := ge HB hg; have NB325_335 := nl BK325 hg; have NB335_325 := ng NB325_335; have NB326_335 := nl BK326 hg; have NB335_326 := ng NB326_335; have NB327_335 := nl BK327 hg; have NB335_327 := ng NB327_335; have NB331_335 := nl BK331 hg; have NB335_331 := ng NB331_335; replace BK325 := bb BK325 hb; replace BK326 := bb BK326 hb; replace BK327 := bb BK327 hb; replace BK331 := bb BK331 hb; replace HB := bs HB hb; clear hb hbox hg; have hnb22 := NB335_325.out; have hnc22 := NB325_335.out; have hnb23 := NB335_326.out; have hnc23 := NB326_335.out; have hnb24 := NB335_327.out; have hnc24 := NB327_335.out; have hnb25 := NB335_331.out; have hnc25 := NB331_335.out; obtain ⟨hcz26_0, hcz26_1, hfz26_0, hfz26_1⟩ := cz2 BK335; obtain ⟨hcz27_0, hcz27_1, hfz27_0, hfz27_1⟩ := cz2 BK331) | ((with_reducible refine gate_callee (f := 49) rfl ?_); refine goesL_ (some 24) rfl rfl Try.func49 (by kernel_rfl) rfl #[.bool t328, .agg #[.int .u64 t329, .int .u64 t330], .bool t332, .agg #[.int .u64 t333, .int .u64 t334]] rfl zm ?_; (with_reducible refine (corebankref01_sum.calls t328 t329 t330 t332 t333 t334 t336 t337 t338 _ A5.out).mono ?_); rintro e w28 ⟨rfl, hb⟩; refine ⟨_, rfl, ?_⟩; replace BK325 := bb BK325 hb; replace BK326 := bb BK326 hb; replace BK327 := bb BK327 hb; replace BK331 := bb BK331 hb; replace BK335 := bpb BK335 hb #[.int .u64 t333, .int .u64 t334]; replace HB := bs HB hb; (try clear hb); (try clear hb2); (try clear hk); (try clear hi); obtain ⟨hcz29_0, hcz29_1, hfz29_0, hfz29_1⟩ := cz2 BK327))
  refine bodyPost_ret (results_ct rfl _ _ gb327 35 #[.int .i64 t336, .int .u64 t337] (0, 0) _ rfl (bp BK327) Try.underlying35 rfl (by kernel_rfl)) rfl ?_
  exact ⟨by first | rfl | (simp [errW_none, errW_some] <;> rfl) | (simp [*, errW_none, errW_some] <;> rfl), hq HB⟩

/-! ### corebankref01_times: function 67 -/
def corebankref01_times.l0 : Nat → Int → Bool → Int → Int → Int → Int → Int → Option (Int × Int × Bool)
  | 0, _, _, _, _, _, _, _ => none
  | k + 1, x1, x7, x8, x340000, x340001, x342000, x342001 => if x8 < 64 then ((corebankref01_plus.f x342000 x342001 x342000 x342001).bind fun bt342 => (if x7 = true then (if (Go.bits .and .u64 x1 9223372036854775808) = 0 then (corebankref01_times.l0 k (IntKind.u64.wrap (x1 * 2)) bt342.2.2 (wrap64 (x8 + 1)) x340000 x340001 bt342.1 bt342.2.1) else ((corebankref01_plus.f bt342.1 bt342.2.1 x340000 x340001).bind fun bt346 => (if bt342.2.2 = true then (corebankref01_times.l0 k (IntKind.u64.wrap (x1 * 2)) bt346.2.2 (wrap64 (x8 + 1)) x340000 x340001 bt346.1 bt346.2.1) else (corebankref01_times.l0 k (IntKind.u64.wrap (x1 * 2)) false (wrap64 (x8 + 1)) x340000 x340001 bt346.1 bt346.2.1)))) else (if (Go.bits .and .u64 x1 9223372036854775808) = 0 then (corebankref01_times.l0 k (IntKind.u64.wrap (x1 * 2)) false (wrap64 (x8 + 1)) x340000 x340001 bt342.1 bt342.2.1) else ((corebankref01_plus.f bt342.1 bt342.2.1 x340000 x340001).bind fun bt349 => (corebankref01_times.l0 k (IntKind.u64.wrap (x1 * 2)) false (wrap64 (x8 + 1)) x340000 x340001 bt349.1 bt349.2.1))))) else (some (x342000, x342001, x7))
def corebankref01_times.f (k : Nat) (a0_0 : Int) (a0_1 : Int) (a1 : Int) : Option (Int × Int × Bool) := corebankref01_times.l0 k a1 true 0 a0_0 a0_1 0 0
theorem corebankref01_times.mono_l : ∀ k, (∀ y0 y1 y2 y3 y4 y5 y6, LeO (corebankref01_times.l0 k y0 y1 y2 y3 y4 y5 y6) (corebankref01_times.l0 (k + 1) y0 y1 y2 y3 y4 y5 y6))
  | 0 => fun _ _ _ _ _ _ _ r h => by simp [corebankref01_times.l0] at h
  | k + 1 => by
    have ih0 := corebankref01_times.mono_l k
    · intro y0 y1 y2 y3 y4 y5 y6
      unfold corebankref01_times.l0
      repeat' first
      | (with_reducible exact ih0 _ _ _ _ _ _ _)
      | (with_reducible exact LeO.refl _)
      | (with_reducible exact LeO.none _)
      | (with_reducible refine LeO.ite ?_ ?_)
      | (with_reducible refine LeO.bind ?_ (fun _ => ?_))
      | exact ih0 _ _ _ _ _ _ _
      | exact LeO.none _
      | refine LeO.ite ?_ ?_
      | refine LeO.bind ?_ (fun _ => ?_)
theorem corebankref01_times.mono : ∀ a0 a1 a2 k, LeO (corebankref01_times.f k a0 a1 a2) (corebankref01_times.f (k + 1) a0 a1 a2) := by
  intro a0 a1 a2 k
  have ih0 := corebankref01_times.mono_l k
  unfold corebankref01_times.f
  repeat' first
      | (with_reducible exact ih0 _ _ _ _ _ _ _)
      | (with_reducible exact LeO.refl _)
      | (with_reducible exact LeO.none _)
      | (with_reducible refine LeO.ite ?_ ?_)
      | (with_reducible refine LeO.bind ?_ (fun _ => ?_))
      | exact ih0 _ _ _ _ _ _ _
      | exact LeO.none _
      | refine LeO.ite ?_ ?_
      | refine LeO.bind ?_ (fun _ => ?_)
set_option maxHeartbeats 8000000 in
set_option maxRecDepth 100000 in
theorem corebankref01_times.calls (k : Nat) (a0_0 : Int) (a0_1 : Int) (a1 : Int) (r1 : Int) (r2 : Int) (r3 : Bool) (w : World) (h : corebankref01_times.f k a0_0 a0_1 a1 = some (r1, r2, r3)) :
    Calls Try.prog 67 #[.agg #[.int .u64 a0_0, .int .u64 a0_1], .int .u64 a1] w fun e w' => e = .returned (.tuple #[.agg #[.int .u64 r1, .int .u64 r2], .bool r3]) ∧ Below w.heap.size w w' := by
  have hu89 := Try.underlying89
  have HB := Aside0.mk (Below.refl w.heap.size w)
  have H : (corebankref01_times.l0 k a1 true 0 a0_0 a0_1 0 0) = some (r1, r2, r3) := h
  clear h
  have H' := Aside0.mk H
  clear H
  go_enter Try.func67, Try.ntmps67
  go_wp2_with (first | ((with_reducible refine gate_dst (N := 2) rfl ?_); refine box_event ?hg (N := 2) ?hd (cs := #[.int .u64 a0_0, .int .u64 a0_1]) (t := 89) ?hr ?_; (case hd => rfl); (case hg => rfl); (case hr => first | (go_simp; done) | (go_simp; rfl)); intro gb339 hg w3 hbox hb; have BK339 := Aside0.mk (hbox); have GW339 := ge HB hg; have GE339 := ge HB hg; replace HB := bs HB hb; clear hb hbox hg) | ((with_reducible refine gate_dst (N := 4) rfl ?_); refine box_event ?hg (N := 4) ?hd (cs := #[.int .u64 0, .int .u64 0]) (t := 89) ?hr ?_; (case hd => rfl); (case hg => rfl); (case hr => first | (go_simp; done) | (go_simp; rfl)); intro gb340 hg w4 hbox hb; have BK340 := Aside0.mk (hbox); have GW340 := ge HB hg; have GE340 := ge HB hg; have NB339_340 := nl BK339 hg; have NB340_339 := ng NB339_340; replace BK339 := bb BK339 hb; replace HB := bs HB hb; clear hb hbox hg) | ((with_reducible refine gate_dst (N := 6) rfl ?_); refine box_event ?hg (N := 6) ?hd (cs := #[.int .u64 0, .int .u64 0]) (t := 89) ?hr ?_; (case hd => rfl); (case hg => rfl); (case hr => first | (go_simp; done) | (go_simp; rfl)); intro gb341 hg w5 hbox hb; have BK341 := Aside0.mk (hbox); have GW341 := ge HB hg; have GE341 := ge HB hg; have NB339_341 := nl BK339 hg; have NB341_339 := ng NB339_341; have NB340_341 := nl BK340 hg; have NB341_340 := ng NB340_341; replace BK339 := bb BK339 hb; replace BK340 := bb BK340 hb; replace HB := bs HB hb; clear hb hbox hg; have hnb6 := NB341_339.out; have hnc6 := NB339_341.out; have hnb7 := NB341_340.out; have hnc7 := NB340_341.out; obtain ⟨hcz8_0, hcz8_1, hfz8_0, hfz8_1⟩ := cz2 BK341))
  go_loopg [1, 7, 8] k (fun kq v1 v7 v8 w' => ∃ (x1_1 : Int) (x7_1 : Bool) (x8_1 : Int) (x342000_1 : Int) (x342001_1 : Int), v1 = .int .u64 x1_1 ∧ v7 = .bool x7_1 ∧ v8 = .int .i64 x8_1 ∧ Aside0 (corebankref01_times.l0 kq x1_1 x7_1 x8_1 a0_0 a0_1 x342000_1 x342001_1 = some (r1, r2, r3)) ∧ Aside0 (kq ≤ k) ∧ Aside0 (w'.heap[gb339]? = some (.cells #[.int .u64 a0_0, .int .u64 a0_1] 89 (0, 0))) ∧ Aside0 (w'.heap[gb340]? = some (.cells #[.int .u64 0, .int .u64 0] 89 (0, 0))) ∧ Aside0 (w'.heap[gb341]? = some (.cells #[.int .u64 x342000_1, .int .u64 x342001_1] 89 (0, 0))) ∧ Aside0 (Below w.heap.size w w'))
  case atStart => exact ⟨(a1), (true), (0), (0), (0), (by first | rfl | (simp; done) | (simp [*]; done)), (by first | rfl | (simp; done) | (simp [*]; done)), (by first | rfl | (simp; done) | (simp [*]; done)), H', ⟨Nat.le_refl _⟩, ⟨bq BK339⟩, ⟨bq BK340⟩, ⟨bp BK341⟩, ⟨hq HB⟩⟩
  case round =>
    clear H'
    try clear p2
    try clear c6
    try clear c7
    try clear hcz8_0
    try clear hcz8_1
    try clear hfz8_0
    try clear hfz8_1
    obtain ⟨x1_1, x7_1, x8_1, x342000_1, x342001_1, rfl, rfl, rfl, HA, HK1, BK339, BK340, BK341, HB⟩ := hrel
    cases gk with
    | zero => exact absurd HA.out (by simp [corebankref01_times.l0])
    | succ k1 =>
      have H := HA.out
      clear HA
      simp only [corebankref01_times.l0] at H
      by_cases c9 : x8_1 < 64
      · rw [if_pos c9] at H
        have c9b0 : decide (x8_1 < 64) = true := decide_eq_true c9
        clear c9
        replace H := Option.bind_eq_some_iff.mp H
        obtain ⟨⟨t342, t343, t344⟩, A100, H⟩ := H
        replace H : (if x7_1 = true then (if (Go.bits .and .u64 x1_1 9223372036854775808) = 0 then (corebankref01_times.l0 k1 (IntKind.u64.wrap (x1_1 * 2)) t344 (wrap64 (x8_1 + 1)) a0_0 a0_1 t342 t343) else ((corebankref01_plus.f t342 t343 a0_0 a0_1).bind fun bt346 => (if t344 = true then (corebankref01_times.l0 k1 (IntKind.u64.wrap (x1_1 * 2)) bt346.2.2 (wrap64 (x8_1 + 1)) a0_0 a0_1 bt346.1 bt346.2.1) else (corebankref01_times.l0 k1 (IntKind.u64.wrap (x1_1 * 2)) false (wrap64 (x8_1 + 1)) a0_0 a0_1 bt346.1 bt346.2.1)))) else (if (Go.bits .and .u64 x1_1 9223372036854775808) = 0 then (corebankref01_times.l0 k1 (IntKind.u64.wrap (x1_1 * 2)) false (wrap64 (x8_1 + 1)) a0_0 a0_1 t342 t343) else ((corebankref01_plus.f t342 t343 a0_0 a0_1).bind fun bt349 => (corebankref01_times.l0 k1 (IntKind.u64.wrap (x1_1 * 2)) false (wrap64 (x8_1 + 1)) a0_0 a0_1 bt349.1 bt349.2.1)))) = some (r1, r2, r3) := H
        have A10 := Aside0.mk A100
        clear A100
        by_cases c11 : x7_1 = true
        · subst c11
          have H1 : (if (Go.bits .and .u64 x1_1 9223372036854775808) = 0 then (corebankref01_times.l0 k1 (IntKind.u64.wrap (x1_1 * 2)) t344 (wrap64 (x8_1 + 1)) a0_0 a0_1 t342 t343) else ((corebankref01_plus.f t342 t343 a0_0 a0_1).bind fun bt346 => (if t344 = true then (corebankref01_times.l0 k1 (IntKind.u64.wrap (x1_1 * 2)) bt346.2.2 (wrap64 (x8_1 + 1)) a0_0 a0_1 bt346.1 bt346.2.1) else (corebankref01_times.l0 k1 (IntKind.u64.wrap (x1_1 * 2)) false (wrap64 (x8_1 + 1)) a0_0 a0_1 bt346.1 bt346.2.1)))) = some (r1, r2, r3) := by rw [if_pos rfl] at H; exact H
          clear H
          have H := H1
          clear H1
          by_cases c12 : (Go.bits .and .u64 x1_1 9223372036854775808) = 0
          · rw [if_pos c12] at H
            have c12b0 : ((Go.bits .and .u64 x1_1 9223372036854775808) == 0) = true := beq_iff_eq.mpr c12
            have c12b1 : ((Go.bits .and .u64 x1_1 9223372036854775808) != 0) = false := bne_eq_false_iff_eq.mpr c12
            clear c12
            have H' := Aside0.mk H
            clear H
            have hnb13 := NB341_339.out
            have hnc13 := NB339_341.out
            have hnb14 := NB341_340.out
            have hnc14 := NB340_341.out
            obtain ⟨hcz15_0, hcz15_1, hfz15_0, hfz15_1⟩ := cz2 BK341
            go_wp2_with (first | ((with_reducible refine gate_callee (f := 70) rfl ?_); refine goesL_ (some 19) rfl rfl Try.func70 (by kernel_rfl) rfl #[.agg #[.int .u64 x342000_1, .int .u64 x342001_1], .agg #[.int .u64 x342000_1, .int .u64 x342001_1]] rfl zm ?_; (with_reducible refine (corebankref01_plus.calls x342000_1 x342001_1 x342000_1 x342001_1 t342 t343 t344 _ A10.out).mono ?_); rintro e w16 ⟨rfl, hb⟩; refine ⟨_, rfl, ?_⟩; replace BK339 := bb BK339 hb; replace BK340 := bb BK340 hb; replace BK341 := bb BK341 hb; replace HB := bs HB hb; (try clear hb); (try clear hb2); (try clear hk); (try clear hi)) | ((with_reducible refine gate_dst (N := 9) rfl ?_); refine box_event ?hg (N := 9) ?hd (cs := #[.int .u64 0, .int .u64 0]) (t := 89) ?hr ?_; (case hd => rfl); (case hg => rfl); (case hr => first | (go_simp; done) | (go_simp; rfl)); intro gb345 hg w17 hbox hb; have BK345 := Aside0.mk (hbox); have GW345 := ge HB hg; have GE345 := ge HB hg; have NB339_345 := nl BK339 hg; have NB345_339 := ng NB339_345; have NB340_345 := nl BK340 hg; have NB345_340 := ng NB340_345; have NB341_345 := nl BK341 hg; have NB345_341 := ng NB341_345; replace BK339 := bb BK339 hb; replace BK340 := bb BK340 hb; replace BK341 := bb BK341 hb; replace HB := bs HB hb; clear hb hbox hg; have hnb18 := NB345_339.out; have hnc18 := NB339_345.out; have hnb19 := NB345_340.out; have hnc19 := NB340_345.out; have hnb20 := NB345_341.out; have hnc20 := NB341_345.out; obtain ⟨hcz21_0, hcz21_1, hfz21_0, hfz21_1⟩ := cz2 BK345; obtain ⟨hcz22_0, hcz22_1, hfz22_0, hfz22_1⟩ := cz2 BK341))
            go_roundg k1
            case measure => have := HK1.out; omega
            case rel => exact ⟨(IntKind.u64.wrap (x1_1 * 2)), (t344), (wrap64 (x8_1 + 1)), (t342), (t343), (by first | rfl | (simp; done) | (simp [*]; done)), (by first | rfl | (simp; done) | (simp [*]; done)), (by first | rfl | (simp; done) | (simp [*]; done)), H', ⟨by have := HK1.out; omega⟩, ⟨bq BK339⟩, ⟨bq BK340⟩, ⟨bp BK341⟩, ⟨hq HB⟩⟩
          · rw [if_neg c12] at H
            have c12b0 : ((Go.bits .and .u64 x1_1 9223372036854775808) == 0) = false := beq_eq_false_iff_ne.mpr c12
            have c12b1 : ((Go.bits .and .u64 x1_1 9223372036854775808) != 0) = true := bne_iff_ne.mpr c12
            replace H := Option.bind_eq_some_iff.mp H
            obtain ⟨⟨t346, t347, t348⟩, A230, H⟩ := H
            replace H : (if t344 = true then (corebankref01_times.l0 k1 (IntKind.u64.wrap (x1_1 * 2)) t348 (wrap64 (x8_1 + 1)) a0_0 a0_1 t346 t347) else (corebankref01_times.l0 k1 (IntKind.u64.wrap (x1_1 * 2)) false (wrap64 (x8_1 + 1)) a0_0 a0_1 t346 t347)) = some (r1, r2, r3) := H
            have A23 := Aside0.mk A230
            clear A230
            by_cases c24 : t344 = true
            · subst c24
              have H1 : (corebankref01_times.l0 k1 (IntKind.u64.wrap (x1_1 * 2)) t348 (wrap64 (x8_1 + 1)) a0_0 a0_1 t346 t347) = some (r1, r2, r3) := by rw [if_pos rfl] at H; exact H
              clear H
              have H := H1
              clear H1
              have H' := Aside0.mk H
              clear H
              have hnb25 := NB341_339.out
              have hnc25 := NB339_341.out
              have hnb26 := NB341_340.out
              have hnc26 := NB340_341.out
              obtain ⟨hcz27_0, hcz27_1, hfz27_0, hfz27_1⟩ := cz2 BK341
              go_wp2_with (first | ((with_reducible refine gate_callee (f := 70) rfl ?_); refine goesL_ (some 19) rfl rfl Try.func70 (by kernel_rfl) rfl #[.agg #[.int .u64 x342000_1, .int .u64 x342001_1], .agg #[.int .u64 x342000_1, .int .u64 x342001_1]] rfl zm ?_; (with_reducible refine (corebankref01_plus.calls x342000_1 x342001_1 x342000_1 x342001_1 t342 t343 true _ A10.out).mono ?_); rintro e w28 ⟨rfl, hb⟩; refine ⟨_, rfl, ?_⟩; replace BK339 := bb BK339 hb; replace BK340 := bb BK340 hb; replace BK341 := bb BK341 hb; replace HB := bs HB hb; (try clear hb); (try clear hb2); (try clear hk); (try clear hi)) | ((with_reducible refine gate_dst (N := 9) rfl ?_); refine box_event ?hg (N := 9) ?hd (cs := #[.int .u64 0, .int .u64 0]) (t := 89) ?hr ?_; (case hd => rfl); (case hg => rfl); (case hr => first | (go_simp; done) | (go_simp; rfl)); intro gb345 hg w29 hbox hb; have BK345 := Aside0.mk (hbox); have GW345 := ge HB hg; have GE345 := ge HB hg; have NB339_345 := nl BK339 hg; have NB345_339 := ng NB339_345; have NB340_345 := nl BK340 hg; have NB345_340 := ng NB340_345; have NB341_345 := nl BK341 hg; have NB345_341 := ng NB341_345; replace BK339 := bb BK339 hb; replace BK340 := bb BK340 hb; replace BK341 := bb BK341 hb; replace HB := bs HB hb; clear hb hbox hg; have hnb30 := NB345_339.out; have hnc30 := NB339_345.out; have hnb31 := NB345_340.out; have hnc31 := NB340_345.out; have hnb32 := NB345_341.out; have hnc32 := NB341_345.out; obtain ⟨hcz33_0, hcz33_1, hfz33_0, hfz33_1⟩ := cz2 BK345; obtain ⟨hcz34_0, hcz34_1, hfz34_0, hfz34_1⟩ := cz2 BK341; have hnb35 := NB339_340.out; have hnc35 := NB340_339.out; obtain ⟨hcz36_0, hcz36_1, hfz36_0, hfz36_1⟩ := cz2 BK339) | ((with_reducible refine gate_callee (f := 70) rfl ?_); refine goesL_ (some 33) rfl rfl Try.func70 (by kernel_rfl) rfl #[.agg #[.int .u64 t342, .int .u64 t343], .agg #[.int .u64 a0_0, .int .u64 a0_1]] rfl zm ?_; (with_reducible refine (corebankref01_plus.calls t342 t343 a0_0 a0_1 t346 t347 t348 _ A23.out).mono ?_); rintro e w37 ⟨rfl, hb⟩; refine ⟨_, rfl, ?_⟩; replace BK339 := bb BK339 hb; replace BK340 := bb BK340 hb; replace BK341 := bpb BK341 hb #[.int .u64 t342, .int .u64 t343]; replace BK345 := bpb BK345 hb #[.int .u64 t342, .int .u64 t343]; replace HB := bs HB hb; (try clear hb); (try clear hb2); (try clear hk); (try clear hi); obtain ⟨hcz38_0, hcz38_1, hfz38_0, hfz38_1⟩ := cz2 BK345; obtain ⟨hcz39_0, hcz39_1, hfz39_0, hfz39_1⟩ := cz2 BK341))
              go_roundg k1
              case measure => have := HK1.out; omega
              case rel => exact ⟨(IntKind.u64.wrap (x1_1 * 2)), (t348), (wrap64 (x8_1 + 1)), (t346), (t347), (by first | rfl | (simp; done) | (simp [*]; done)), (by first | rfl | (simp; done) | (simp [*]; done)), (by first | rfl | (simp; done) | (simp [*]; done)), H', ⟨by have := HK1.out; omega⟩, ⟨bq BK339⟩, ⟨bq BK340⟩, ⟨bp BK341⟩, ⟨hq HB⟩⟩
            · replace c24 := Bool.eq_false_iff.mpr c24
              subst c24
              have H1 : (corebankref01_times.l0 k1 (IntKind.u64.wrap (x1_1 * 2)) false (wrap64 (x8_1 + 1)) a0_0 a0_1 t346 t347) = some (r1, r2, r3) := by rw [if_neg (show ¬ (false = true) by decide)] at H; exact H
              clear H
              have H := H1
              clear H1
              have H' := Aside0.mk H
              clear H
              have hnb40 := NB341_339.out
              have hnc40 := NB339_341.out
              have hnb41 := NB341_340.out
              have hnc41 := NB340_341.out
              obtain ⟨hcz42_0, hcz42_1, hfz42_0, hfz42_1⟩ := cz2 BK341
              go_wp2_with (first | ((with_reducible refine gate_callee (f := 70) rfl ?_); refine goesL_ (some 19) rfl rfl Try.func70 (by kernel_rfl) rfl #[.agg #[.int .u64 x342000_1, .int .u64 x342001_1], .agg #[.int .u64 x342000_1, .int .u64 x342001_1]] rfl zm ?_; (with_reducible refine (corebankref01_plus.calls x342000_1 x342001_1 x342000_1 x342001_1 t342 t343 false _ A10.out).mono ?_); rintro e w43 ⟨rfl, hb⟩; refine ⟨_, rfl, ?_⟩; replace BK339 := bb BK339 hb; replace BK340 := bb BK340 hb; replace BK341 := bb BK341 hb; replace HB := bs HB hb; (try clear hb); (try clear hb2); (try clear hk); (try clear hi)) | ((with_reducible refine gate_dst (N := 9) rfl ?_); refine box_event ?hg (N := 9) ?hd (cs := #[.int .u64 0, .int .u64 0]) (t := 89) ?hr ?_; (case hd => rfl); (case hg => rfl); (case hr => first | (go_simp; done) | (go_simp; rfl)); intro gb345 hg w44 hbox hb; have BK345 := Aside0.mk (hbox); have GW345 := ge HB hg; have GE345 := ge HB hg; have NB339_345 := nl BK339 hg; have NB345_339 := ng NB339_345; have NB340_345 := nl BK340 hg; have NB345_340 := ng NB340_345; have NB341_345 := nl BK341 hg; have NB345_341 := ng NB341_345; replace BK339 := bb BK339 hb; replace BK340 := bb BK340 hb; replace BK341 := bb BK341 hb; replace HB := bs HB hb; clear hb hbox hg; have hnb45 := NB345_339.out; have hnc45 := NB339_345.out; have hnb46 := NB345_340.out; have hnc46 := NB340_345.out; have hnb47 := NB345_341.out; have hnc47 := NB341_345.out; obtain ⟨hcz48_0, hcz48_1, hfz48_0, hfz48_1⟩ := cz2 BK345; obtain ⟨hcz49_0, hcz49_1, hfz49_0, hfz49_1⟩ := cz2 BK341; have hnb50 := NB339_340.out; have hnc50 := NB340_339.out; obtain ⟨hcz51_0, hcz51_1, hfz51_0, hfz51_1⟩ := cz2 BK339) | ((with_reducible refine gate_callee (f := 70) rfl ?_); refine goesL_ (some 33) rfl rfl Try.func70 (by kernel_rfl) rfl #[.agg #[.int .u64 t342, .int .u64 t343], .agg #[.int .u64 a0_0, .int .u64 a0_1]] rfl zm ?_; (with_reducible refine (corebankref01_plus.calls t342 t343 a0_0 a0_1 t346 t347 t348 _ A23.out).mono ?_); rintro e w52 ⟨rfl, hb⟩; refine ⟨_, rfl, ?_⟩; replace BK339 := bb BK339 hb; replace BK340 := bb BK340 hb; replace BK341 := bpb BK341 hb #[.int .u64 t342, .int .u64 t343]; replace BK345 := bpb BK345 hb #[.int .u64 t342, .int .u64 t343]; replace HB := bs HB hb; (try clear hb); (try clear hb2); (try clear hk); (try clear hi); obtain ⟨hcz53_0, hcz53_1, hfz53_0, hfz53_1⟩ := cz2 BK345; obtain ⟨hcz54_0, hcz54_1, hfz54_0, hfz54_1⟩ := cz2 BK341))
              go_roundg k1
              case measure => have := HK1.out; omega
              case rel => exact ⟨(IntKind.u64.wrap (x1_1 * 2)), (false), (wrap64 (x8_1 + 1)), (t346), (t347), (by first | rfl | (simp; done) | (simp [*]; done)), (by first | rfl | (simp; done) | (simp [*]; done)), (by first | rfl | (simp; done) | (simp [*]; done)), H', ⟨by have := HK1.out; omega⟩, ⟨bq BK339⟩, ⟨bq BK340⟩, ⟨bp BK341⟩, ⟨hq HB⟩⟩
        · replace c11 := Bool.eq_false_iff.mpr c11
          subst c11
          have H1 : (if (Go.bits .and .u64 x1_1 9223372036854775808) = 0 then (corebankref01_times.l0 k1 (IntKind.u64.wrap (x1_1 * 2)) false (wrap64 (x8_1 + 1)) a0_0 a0_1 t342 t343) else ((corebankref01_plus.f t342 t343 a0_0 a0_1).bind fun bt349 => (corebankref01_times.l0 k1 (IntKind.u64.wrap (x1_1 * 2)) false (wrap64 (x8_1 + 1)) a0_0 a0_1 bt349.1 bt349.2.1))) = some (r1, r2, r3) := by rw [if_neg (show ¬ (false = true) by decide)] at H; exact H
          clear H
          have H := H1
          clear H1
          by_cases c55 : (Go.bits .and .u64 x1_1 9223372036854775808) = 0
          · rw [if_pos c55] at H
            have c55b0 : ((Go.bits .and .u64 x1_1 9223372036854775808) == 0) = true := beq_iff_eq.mpr c55
            have c55b1 : ((Go.bits .and .u64 x1_1 9223372036854775808) != 0) = false := bne_eq_false_iff_eq.mpr c55
            clear c55
            have H' := Aside0.mk H
            clear H
            have hnb56 := NB341_339.out
            have hnc56 := NB339_341.out
            have hnb57 := NB341_340.out
            have hnc57 := NB340_341.out
            obtain ⟨hcz58_0, hcz58_1, hfz58_0, hfz58_1⟩ := cz2 BK341
            go_wp2_with (first | ((with_reducible refine gate_callee (f := 70) rfl ?_); refine goesL_ (some 19) rfl rfl Try.func70 (by kernel_rfl) rfl #[.agg #[.int .u64 x342000_1, .int .u64 x342001_1], .agg #[.int .u64 x342000_1, .int .u64 x342001_1]] rfl zm ?_; (with_reducible refine (corebankref01_plus.calls x342000_1 x342001_1 x342000_1 x342001_1 t342 t343 t344 _ A10.out).mono ?_); rintro e w59 ⟨rfl, hb⟩; refine ⟨_, rfl, ?_⟩; replace BK339 := bb BK339 hb; replace BK340 := bb BK340 hb; replace BK341 := bb BK341 hb; replace HB := bs HB hb; (try clear hb); (try clear hb2); (try clear hk); (try clear hi)) | ((with_reducible refine gate_dst (N := 9) rfl ?_); refine box_event ?hg (N := 9) ?hd (cs := #[.int .u64 0, .int .u64 0]) (t := 89) ?hr ?_; (case hd => rfl); (case hg => rfl); (case hr => first | (go_simp; done) | (go_simp; rfl)); intro gb345 hg w60 hbox hb; have BK345 := Aside0.mk (hbox); have GW345 := ge HB hg; have GE345 := ge HB hg; have NB339_345 := nl BK339 hg; have NB345_339 := ng NB339_345; have NB340_345 := nl BK340 hg; have NB345_340 := ng NB340_345; have NB341_345 := nl BK341 hg; have NB345_341 := ng NB341_345; replace BK339 := bb BK339 hb; replace BK340 := bb BK340 hb; replace BK341 := bb BK341 hb; replace HB := bs HB hb; clear hb hbox hg; have hnb61 := NB345_339.out; have hnc61 := NB339_345.out; have hnb62 := NB345_340.out; have hnc62 := NB340_345.out; have hnb63 := NB345_341.out; have hnc63 := NB341_345.out; obtain ⟨hcz64_0, hcz64_1, hfz64_0, hfz64_1⟩ := cz2 BK345; obtain ⟨hcz65_0, hcz65_1, hfz65_0, hfz65_1⟩ := cz2 BK341))
            go_roundg k1
            case measure => have := HK1.out; omega
            case rel => exact ⟨(IntKind.u64.wrap (x1_1 * 2)), (false), (wrap64 (x8_1 + 1)), (t342), (t343), (by first | rfl | (simp; done) | (simp [*]; done)), (by first | rfl | (simp; done) | (simp [*]; done)), (by first | rfl | (simp; done) | (simp [*]; done)), H', ⟨by have := HK1.out; omega⟩, ⟨bq BK339⟩, ⟨bq BK340⟩, ⟨bp BK341⟩, ⟨hq HB⟩⟩
          · rw [if_neg c55] at H
            have c55b0 : ((Go.bits .and .u64 x1_1 9223372036854775808) == 0) = false := beq_eq_false_iff_ne.mpr c55
            have c55b1 : ((Go.bits .and .u64 x1_1 9223372036854775808) != 0) = true := bne_iff_ne.mpr c55
            replace H := Option.bind_eq_some_iff.mp H
            obtain ⟨⟨t349, t350, t351⟩, A660, H⟩ := H
            replace H : (corebankref01_times.l0 k1 (IntKind.u64.wrap (x1_1 * 2)) false (wrap64 (x8_1 + 1)) a0_0 a0_1 t349 t350) = some (r1, r2, r3) := H
            have A66 := Aside0.mk A660
            clear A660
            have H' := Aside0.mk H
            clear H
            have hnb67 := NB341_339.out
            have hnc67 := NB339_341.out
            have hnb68 := NB341_340.out
            have hnc68 := NB340_341.out
            obtain ⟨hcz69_0, hcz69_1, hfz69_0, hfz69_1⟩ := cz2 BK341
            go_wp2_with (first | ((with_reducible refine gate_callee (f := 70) rfl ?_); refine goesL_ (some 19) rfl rfl Try.func70 (by kernel_rfl) rfl #[.agg #[.int .u64 x342000_1, .int .u64 x342001_1], .agg #[.int .u64 x342000_1, .int .u64 x342001_1]] rfl zm ?_; (with_reducible refine (corebankref01_plus.calls x342000_1 x342001_1 x342000_1 x342001_1 t342 t343 t344 _ A10.out).mono ?_); rintro e w70 ⟨rfl, hb⟩; refine ⟨_, rfl, ?_⟩; replace BK339 := bb BK339 hb; replace BK340 := bb BK340 hb; replace BK341 := bb BK341 hb; replace HB := bs HB hb; (try clear hb); (try clear hb2); (try clear hk); (try clear hi)) | ((with_reducible refine gate_dst (N := 9) rfl ?_); refine box_event ?hg (N := 9) ?hd (cs := #[.int .u64 0, .int .u64 0]) (t := 89) ?hr ?_; (case hd => rfl); (case hg => rfl); (case hr => first | (go_simp; done) | (go_simp; rfl)); intro gb345 hg w71 hbox hb; have BK345 := Aside0.mk (hbox); have GW345 := ge HB hg; have GE345 := ge HB hg; have NB339_345 := nl BK339 hg; have NB345_339 := ng NB339_345; have NB340_345 := nl BK340 hg; have NB345_340 := ng NB340_345; have NB341_345 := nl BK341 hg; have NB345_341 := ng NB341_345; replace BK339 := bb BK339 hb; replace BK340 := bb BK340 hb; replace BK341 := bb BK341 hb; replace HB := bs HB hb; clear hb hbox hg; have hnb72 := NB345_339.out; have hnc72 := NB339_345.out; have hnb73 := NB345_340.out; have hnc73 := NB340_345.out; have hnb74 := NB345_341.out; have hnc74 := NB341_345.out; obtain ⟨hcz75_0, hcz75_1, hfz75_0, hfz75_1⟩ := cz2 BK345; obtain ⟨hcz76_0, hcz76_1, hfz76_0, hfz76_1⟩ := cz2 BK341; have hnb77 := NB339_340.out; have hnc77 := NB340_339.out; obtain ⟨hcz78_0, hcz78_1, hfz78_0, hfz78_1⟩ := cz2 BK339) | ((with_reducible refine gate_callee (f := 70) rfl ?_); refine goesL_ (some 33) rfl rfl Try.func70 (by kernel_rfl) rfl #[.agg #[.int .u64 t342, .int .u64 t343], .agg #[.int .u64 a0_0, .int .u64 a0_1]] rfl zm ?_; (with_reducible refine (corebankref01_plus.calls t342 t343 a0_0 a0_1 t349 t350 t351 _ A66.out).mono ?_); rintro e w79 ⟨rfl, hb⟩; refine ⟨_, rfl, ?_⟩; replace BK339 := bb BK339 hb; replace BK340 := bb BK340 hb; replace BK341 := bpb BK341 hb #[.int .u64 t342, .int .u64 t343]; replace BK345 := bpb BK345 hb #[.int .u64 t342, .int .u64 t343]; replace HB := bs HB hb; (try clear hb); (try clear hb2); (try clear hk); (try clear hi); obtain ⟨hcz80_0, hcz80_1, hfz80_0, hfz80_1⟩ := cz2 BK345; obtain ⟨hcz81_0, hcz81_1, hfz81_0, hfz81_1⟩ := cz2 BK341))
            go_roundg k1
            case measure => have := HK1.out; omega
            case rel => exact ⟨(IntKind.u64.wrap (x1_1 * 2)), (false), (wrap64 (x8_1 + 1)), (t349), (t350), (by first | rfl | (simp; done) | (simp [*]; done)), (by first | rfl | (simp; done) | (simp [*]; done)), (by first | rfl | (simp; done) | (simp [*]; done)), H', ⟨by have := HK1.out; omega⟩, ⟨bq BK339⟩, ⟨bq BK340⟩, ⟨bp BK341⟩, ⟨hq HB⟩⟩
      · rw [if_neg c9] at H
        have c9b0 : decide (x8_1 < 64) = false := decide_eq_false c9
        clear c9
        simp only [Option.some.injEq, Prod.mk.injEq] at H
        obtain ⟨rfl, rfl, rfl⟩ := H
        have hnb82 := NB341_339.out
        have hnc82 := NB339_341.out
        have hnb83 := NB341_340.out
        have hnc83 := NB340_341.out
        obtain ⟨hcz84_0, hcz84_1, hfz84_0, hfz84_1⟩ := cz2 BK341
        have hnb85 := NB340_339.out
        have hnc85 := NB339_340.out
        obtain ⟨hcz86_0, hcz86_1, hfz86_0, hfz86_1⟩ := cz2 BK340
        go_wp2
        refine bodyPost_ret (results_ct rfl _ _ gb340 89 #[.int .u64 x342000_1, .int .u64 x342001_1] (0, 0) _ rfl (bp BK340) Try.underlying89 rfl (by kernel_rfl)) rfl ?_
        exact ⟨by first | rfl | (simp [errW_none, errW_some] <;> rfl) | (simp [*, errW_none, errW_some] <;> rfl), hq HB⟩

/-! ### corebankref01_size: function 68 -/
def corebankref01_size.f (a0 : Int) : Option (Int) := if a0 < 0 then (some (IntKind.u64.wrap ((not64 (IntKind.u64.wrap (a0))) + 1))) else (some (IntKind.u64.wrap (a0)))
set_option maxHeartbeats 8000000 in
set_option maxRecDepth 100000 in
theorem corebankref01_size.calls (a0 : Int) (r : Int) (w : World) (h : corebankref01_size.f a0 = some r) :
    Calls Try.prog 68 #[.int .i64 a0] w fun e w' => e = .returned (.int .u64 r) ∧ Drawn0 w w' := by
  have H : (if a0 < 0 then (some (IntKind.u64.wrap ((not64 (IntKind.u64.wrap (a0))) + 1))) else (some (IntKind.u64.wrap (a0)))) = some r := h
  clear h
  by_cases c2 : a0 < 0
  · rw [if_pos c2] at H
    have c2b0 : decide (a0 < 0) = true := decide_eq_true c2
    clear c2
    obtain rfl := Option.some.inj H
    go_enter Try.func68, Try.ntmps68
    go_wp2
    go_ret
    exact ⟨by first | rfl | (simp; done) | (simp [*]; done), by repeat (first | exact Drawn0.refl _ | apply Drawn0.step)⟩
  · rw [if_neg c2] at H
    have c2b0 : decide (a0 < 0) = false := decide_eq_false c2
    clear c2
    obtain rfl := Option.some.inj H
    go_enter Try.func68, Try.ntmps68
    go_wp2
    go_ret
    exact ⟨by first | rfl | (simp; done) | (simp [*]; done), by repeat (first | exact Drawn0.refl _ | apply Drawn0.step)⟩

end Go.Proofs.Ytlmabdiodopidaa.P
end
section
set_option linter.unusedVariables false
set_option linter.unusedSimpArgs false
namespace Go.Proofs.Ytlmabdiodopidaa.G
set_option maxRecDepth 100000
open Go.RowKit Go.Proofs.YtlmabdiodopidaaW.PrintWords Go.Proofs.YtlmabdiodopidaaW.PrintLast Go.Proofs.YtlmabdiodopidaaW.PrintMore Go.Proofs.Ytlmabdiodopidaa.P
/-- sums from given sums on -/
def totP (add : Int → Int → Int → Int → Option (Int × Int × Int)) : List S66 → Int → Int → Int → Int → Option (Int × Int × Int × Int × Int)
  | [], a, b, c, d => some (a, b, c, d, 0)
  | x :: l, a, b, c, d => (add a b x.f3.f0 x.f3.f1).bind fun r => (add c d x.f4.f0 x.f4.f1).bind fun q => if r.2.2 = 0 ∧ q.2.2 = 0 then totP add l r.1 r.2.1 q.1 q.2.1 else some (0, 0, 0, 0, 6)
theorem drop_at {α : Type} (l : List α) (x : Nat) (h : x < l.length) : l.drop x = l[x] :: l.drop (x + 1) := List.drop_eq_getElem_cons h
theorem wadd_any {a b c d r0 r1 r2 : Int} (h : wide_Add.f a b c d = some (r0, r1, r2)) (w : World) : Calls Try.prog 45 #[.agg #[.int .i64 a, .int .u64 b], .agg #[.int .i64 c, .int .u64 d]] w fun e w' => e = .returned (.tuple #[.agg #[.int .i64 r0, .int .u64 r1], .int .i64 r2]) ∧ Below w.heap.size w w' := wide_Add.calls a b c d r0 r1 r2 w h
set_option maxHeartbeats 4000000 in
theorem total_calls (A : Option Addr) (cc : Nat) (l : List S66) (r0 r1 r2 r3 er : Int) (w0 w : World) (hb0 : Below w0.heap.size w0 w) (hr : Kd.C k66 w0 A l.length l) (h : totP wide_Add.f l 0 0 0 0 = some (r0, r1, r2, r3, er)) :
    Calls Try.prog 36 #[.slice A l.length cc] w fun e w' => e = .returned (.tuple #[.agg #[.int .i64 r0, .int .u64 r1], .agg #[.int .i64 r2, .int .u64 r3], .int .i64 er]) ∧ Below w.heap.size w w' := by
  have hlm := Kd.C_max hr
  have HR := Aside0.mk hr
  have HB0 := Aside0.mk hb0
  have H := Aside0.mk h
  clear hr hb0 h
  go_enter Try.func36, Try.ntmps36
  go_wp2
  have b2 := (((Blk.new w zWd 35).alloc (.cells zWd.toArray 35)).alloc (.cells zWd.toArray 35)).alloc (.cells zWd.toArray 35)
  have b3 := ((Blk.newAt (w.alloc (.cells zWd.toArray 35)) (g := w.heap.size + 1) (by simp) zWd 35).alloc (.cells zWd.toArray 35)).alloc (.cells zWd.toArray 35)
  have b5 := (Blk.newAt ((w.alloc (.cells zWd.toArray 35)).alloc (.cells zWd.toArray 35)) (g := w.heap.size + 1 + 1) (by simp) zWd 35).alloc (.cells zWd.toArray 35)
  have b6 := Blk.newAt (((w.alloc (.cells zWd.toArray 35)).alloc (.cells zWd.toArray 35)).alloc (.cells zWd.toArray 35)) (g := w.heap.size + 1 + 1 + 1) (by simp) zWd 35
  have hB := ((((Below.refl w.heap.size w).alloc (Nat.le_refl _) (.cells zWd.toArray 35)).alloc (by simp) (.cells zWd.toArray 35)).alloc (by simp; omega) (.cells zWd.toArray 35)).alloc (by simp; omega) (.cells zWd.toArray 35)
  have hsz : w.heap.size + 4 ≤ ((((w.alloc (.cells zWd.toArray 35)).alloc (.cells zWd.toArray 35)).alloc (.cells zWd.toArray 35)).alloc (.cells zWd.toArray 35)).heap.size := by simp
  have B2 := Aside0.mk b2
  have B3 := Aside0.mk b3
  have B5 := Aside0.mk b5
  have B6 := Aside0.mk b6
  have HB := Aside0.mk hB
  have HSZ := Aside0.mk hsz
  clear b2 b3 b5 b6 hB hsz
  go_loopw [15] (fun i wr => ∃ (x : Nat) (a b c d : Int), x ≤ l.length ∧ i = .int .i64 x ∧ Aside0 (totP wide_Add.f (l.drop x) a b c d = some (r0, r1, r2, r3, er)) ∧ Aside0 (Blk wr w.heap.size zWd 35) ∧ Aside0 (Blk wr (w.heap.size + 1) zWd 35) ∧ Aside0 (Blk wr (w.heap.size + 1 + 1) [.int .i64 a, .int .u64 b] 35) ∧ Aside0 (Blk wr (w.heap.size + 1 + 1 + 1) [.int .i64 c, .int .u64 d] 35) ∧ Aside0 (Below w.heap.size w wr)) (fun i _ => l.length - (intOf i).toNat)
  case atStart => exact ⟨0, 0, 0, 0, 0, by omega, rfl, H, B2, B3, B5, B6, HB⟩
  case round =>
    clear B2 B3 B5 B6 HB HSZ
    obtain ⟨x, a, b, c, d, k1, rfl, HT, C2, C3, C5, C6, HW⟩ := hrel
    by_cases hlt : x < l.length
    · obtain ⟨ad, ce, hA, hcl, hcK, hcR⟩ := row_at HR.out Go.Proofs.Ytlmabdiodopidaa.P.z66 (x : Int) (by omega) (by omega)
      subst hA
      rw [show l.getD (x : Int).toNat Go.Proofs.Ytlmabdiodopidaa.P.z66 = l[x] by rw [Int.toNat_natCast, List.getD_eq_getElem?_getD, List.getElem?_eq_getElem hlt, Option.getD_some]] at hcK
      have hce := k66_open hcK
      have CL := Aside0.mk hcl
      have CK := Aside0.mk hcK
      have CR := Aside0.mk (hcR.below (bstep HB0.out HW.out))
      have ht := HT.out
      rw [drop_at l x hlt] at ht
      unfold totP at ht
      generalize l[x] = xx at *
      cases hr : wide_Add.f a b xx.f3.f0 xx.f3.f1 with
      | none => rw [hr] at ht; cases ht
      | some r =>
      rw [hr, Option.bind_some] at ht
      cases hq : wide_Add.f c d xx.f4.f0 xx.f4.f1 with
      | none => rw [hq] at ht; cases ht
      | some q =>
      rw [hq, Option.bind_some] at ht
      obtain ⟨p0, p1, p2⟩ := r
      obtain ⟨q0, q1, q2⟩ := q
      have HRR := Aside0.mk hr
      have HQ := Aside0.mk hq
      have HT2 := Aside0.mk ht
      clear hr hq ht HT hcl hcK hcR
      have y0 : wr.cell? ⟨w.heap.size + 1 + 1, 0, none⟩ = some (.int .i64 a) := C5.out.cell 0
      have y1 : wr.cell? ⟨w.heap.size + 1 + 1, 1, none⟩ = some (.int .u64 b) := C5.out.cell 1
      have e3 : ce[3]? = some (.int .i64 xx.f3.f0) := by rw [hce]; rfl
      have e4 : ce[4]? = some (.int .u64 xx.f3.f1) := by rw [hce]; rfl
      have e5 : ce[5]? = some (.int .i64 xx.f4.f0) := by rw [hce]; rfl
      have e6 : ce[6]? = some (.int .u64 xx.f4.f1) := by rw [hce]; rfl
      clear hce
      clear y0 y1
      go_upto_region 5 with (first
        | (refine ld_rng rfl 66 _ rfl (p := ad.add (x * 7)) rfl (cs := ce) CR.out Try.underlying66 rfl ?_ ?_; (rw [CL.out]; kernel_rfl))
        | (refine st_new rfl 66 _ _ rfl rfl (cs := acL 0 0 0 0 0 0 0) (vs := ce) rfl rfl CL.out ?_ (k66.K_one CK.out) ?_; (rw [CL.out]; kernel_rfl)))
      have D2 := Aside0.mk (C2.out.alloc (.cells ce.toArray 66))
      have D3 := Aside0.mk (C3.out.alloc (.cells ce.toArray 66))
      have D5 := Aside0.mk (C5.out.alloc (.cells ce.toArray 66))
      have D6 := Aside0.mk (C6.out.alloc (.cells ce.toArray 66))
      have DE := Aside0.mk (Blk.new wr ce 66)
      have DW := Aside0.mk (HW.out.alloc HW.out.size (.cells ce.toArray 66))
      have LW := Aside0.mk C6.out.lt
      have y3 := (DE.out.cell 3).trans e3
      have y4 := (DE.out.cell 4).trans e4
      have E5 := Aside0.mk e5
      have E6 := Aside0.mk e6
      clear C2 C3 C5 C6 HW CR e3 e4 e5 e6
      generalize wr.alloc (.cells ce.toArray 66) = W1 at *
      generalize wr.heap.size = Be at *
      have y0 : W1.cell? ⟨w.heap.size + 1 + 1, 0, none⟩ = some (.int .i64 a) := D5.out.cell 0
      have y1 : W1.cell? ⟨w.heap.size + 1 + 1, 1, none⟩ = some (.int .u64 b) := D5.out.cell 1
      go_upto_region 6 with (first
        | (go_at_call 45; refine (wadd_any HRR.out _).mono ?_; rintro e w2 ⟨rfl, hb2⟩; have HB2 := Aside0.mk (hb2.trans ((Below.refl _ w2).alloc hb2.size (.cells [.int .i64 p0, .int .u64 p1].toArray 35))); have G9 := Aside0.mk (Blk.new w2 [.int .i64 p0, .int .u64 p1] 35); have ZB2 := Aside0.mk hb2.size; clear hb2))
      clear y0 y1 y3 y4
      have F2 := Aside0.mk (D2.out.below HB2.out)
      have F3 := Aside0.mk (D3.out.below HB2.out)
      have F5 := Aside0.mk (D5.out.below HB2.out)
      have F6 := Aside0.mk (D6.out.below HB2.out)
      have FE := Aside0.mk (DE.out.below HB2.out)
      have FW := Aside0.mk (bstep DW.out HB2.out)
      have LW2 := Aside0.mk (show w.heap.size + 1 + 1 + 1 < w2.heap.size from Nat.lt_of_lt_of_le D6.out.lt ZB2.out)
      clear D2 D3 D5 D6 DE DW HB2
      generalize World.alloc w2 _ = W2 at *
      generalize w2.heap.size = B9 at *
      have y0 : W2.cell? ⟨w.heap.size + 1 + 1 + 1, 0, none⟩ = some (.int .i64 c) := F6.out.cell 0
      have y1 : W2.cell? ⟨w.heap.size + 1 + 1 + 1, 1, none⟩ = some (.int .u64 d) := F6.out.cell 1
      have y5 := (FE.out.cell 5).trans E5.out
      have y6 := (FE.out.cell 6).trans E6.out
      go_upto_region 7 with (first
        | (go_at_call 45; refine (wadd_any HQ.out _).mono ?_; rintro e w3 ⟨rfl, hb3⟩; have HB3 := Aside0.mk (hb3.trans ((Below.refl _ w3).alloc hb3.size (.cells [.int .i64 q0, .int .u64 q1].toArray 35))); have G11 := Aside0.mk (Blk.new w3 [.int .i64 q0, .int .u64 q1] 35); have ZB3 := Aside0.mk hb3.size; clear hb3))
      clear y0 y1 y5 y6
      have I2 := Aside0.mk (F2.out.below HB3.out)
      have I3 := Aside0.mk (F3.out.below HB3.out)
      have I5 := Aside0.mk (F5.out.below HB3.out)
      have I6 := Aside0.mk (F6.out.below HB3.out)
      have I9 := Aside0.mk (G9.out.below HB3.out)
      have IW := Aside0.mk (bstep FW.out HB3.out)
      have LW3 := Aside0.mk (show B9 < w3.heap.size from Nat.lt_of_lt_of_le G9.out.lt ZB3.out)
      clear F2 F3 F5 F6 FE FW G9 HB3
      generalize World.alloc w3 _ = W3 at *
      generalize w3.heap.size = B11 at *
      have hab := LW2.out
      have hbc := LW3.out
      by_cases h0 : p2 = 0 ∧ q2 = 0
      · obtain ⟨rfl, rfl⟩ := h0
        have ht := HT2.out
        rw [if_pos ⟨rfl, rfl⟩] at ht
        have HT3 := Aside0.mk ht
        clear ht HT2
        go_upto_region 9 with (fail)
        have z90 : W3.cell? ⟨B9, 0, none⟩ = some (.int .i64 p0) := I9.out.cell 0
        have z91 : W3.cell? ⟨B9, 1, none⟩ = some (.int .u64 p1) := I9.out.cell 1
        have z110 : W3.cell? ⟨B11, 0, none⟩ = some (.int .i64 q0) := G11.out.cell 0
        have z111 : W3.cell? ⟨B11, 1, none⟩ = some (.int .u64 q1) := G11.out.cell 1
        have z50 : W3.cell? ⟨w.heap.size + 1 + 1, 0, none⟩ = some (.int .i64 a) := I5.out.cell 0
        have z51 : W3.cell? ⟨w.heap.size + 1 + 1, 1, none⟩ = some (.int .u64 b) := I5.out.cell 1
        have z60 : W3.cell? ⟨w.heap.size + 1 + 1 + 1, 0, none⟩ = some (.int .i64 c) := I6.out.cell 0
        have z61 : W3.cell? ⟨w.heap.size + 1 + 1 + 1, 1, none⟩ = some (.int .u64 d) := I6.out.cell 1
        have s50 := I5.out.frozen 0
        have s51 := I5.out.frozen 1
        have s60 := I6.out.frozen 0
        have s61 := I6.out.frozen 1
        have n1 : w.heap.size + 1 + 1 ≠ B9 := by omega
        have n2 : w.heap.size + 1 + 1 ≠ B11 := by omega
        have n3 : w.heap.size + 1 + 1 + 1 ≠ B9 := by omega
        have n4 : w.heap.size + 1 + 1 + 1 ≠ B11 := by omega
        have P2 := Aside0.mk (put2 I5.out I6.out (by omega) (.int .i64 p0) (.int .u64 p1) (.int .i64 q0) (.int .u64 q1)).drew
        go_region
        go_wp2
        go_roundw
        case rel => exact ⟨x + 1, p0, p1, q0, q1, by omega, by go_num, HT3, ⟨P2.out.other _ _ _ (by omega) (by omega) I2.out⟩, ⟨P2.out.other _ _ _ (by omega) (by omega) I3.out⟩, ⟨P2.out.five⟩, ⟨P2.out.six⟩, ⟨P2.out.below _ _ (by omega) (by omega) IW.out⟩⟩
        case measure => simp [intOf]; omega
      · have ht := HT2.out
        rw [if_neg h0] at ht
        have he := Option.some.inj ht
        simp only [Prod.mk.injEq] at he
        obtain ⟨rfl, rfl, rfl, rfl, rfl⟩ := he
        clear ht HT2
        have c1 : (p2 != 0) = true ∨ ((p2 != 0) = false ∧ (q2 != 0) = true) := by
          by_cases h1 : p2 = 0
          · exact .inr ⟨by simp [h1], by simp; exact fun h2 => h0 ⟨h1, h2⟩⟩
          · exact .inl (by simp [h1])
        clear h0
        rcases c1 with c1 | ⟨c1, c2⟩
        all_goals
          go_wp2_with (first
            | (refine st_blk rfl 35 _ _ rfl rfl (g := w.heap.size) (vs := zWd) rfl rfl I2.out rfl ?_ (by simp [Value.oneCell']) ?_; kernel_rfl; intro J2)
            | (refine st_blk rfl 35 _ _ rfl rfl (g := w.heap.size + 1) (vs := zWd) rfl rfl (Blk.sets w.heap.size (by omega) _ _ I3.out) rfl ?_ (by simp [Value.oneCell']) ?_; kernel_rfl; intro J3))
          exact bodyPost_ret (ret_cell2_tmp Try.results36 _ _ rfl rfl rfl (Blk.sets (w.heap.size + 1) (by omega) _ _ J2) J3 Try.underlying35 rfl (by kernel_rfl) Try.underlying35 rfl (by kernel_rfl)) rfl ⟨rfl, Below.setCells _ (by omega) _ _ (Below.setCells _ (by omega) _ _ IW.out)⟩
    · have ht := HT.out
      rw [List.drop_eq_nil_of_le (by omega)] at ht
      unfold totP at ht
      have he := Option.some.inj ht
      simp only [Prod.mk.injEq] at he
      obtain ⟨rfl, rfl, rfl, rfl, rfl⟩ := he
      clear ht HT
      have z50 : wr.cell? ⟨w.heap.size + 1 + 1, 0, none⟩ = some (.int .i64 a) := C5.out.cell 0
      have z51 : wr.cell? ⟨w.heap.size + 1 + 1, 1, none⟩ = some (.int .u64 b) := C5.out.cell 1
      have z60 : wr.cell? ⟨w.heap.size + 1 + 1 + 1, 0, none⟩ = some (.int .i64 c) := C6.out.cell 0
      have z61 : wr.cell? ⟨w.heap.size + 1 + 1 + 1, 1, none⟩ = some (.int .u64 d) := C6.out.cell 1
      have z20 : wr.cell? ⟨w.heap.size, 0, none⟩ = some (.int .i64 0) := C2.out.cell 0
      have z21 : wr.cell? ⟨w.heap.size, 1, none⟩ = some (.int .u64 0) := C2.out.cell 1
      have z30 : wr.cell? ⟨w.heap.size + 1, 0, none⟩ = some (.int .i64 0) := C3.out.cell 0
      have z31 : wr.cell? ⟨w.heap.size + 1, 1, none⟩ = some (.int .u64 0) := C3.out.cell 1
      have s20 := C2.out.frozen 0
      have s21 := C2.out.frozen 1
      have s30 := C3.out.frozen 0
      have s31 := C3.out.frozen 1
      have P2 := Aside0.mk (put2 C2.out C3.out (by omega) (.int .i64 a) (.int .u64 b) (.int .i64 c) (.int .u64 d)).drew
      go_upto_region 11 with (fail)
      go_region
      go_wp2
      exact bodyPost_ret (ret_cell2_tmp Try.results36 _ _ rfl rfl rfl P2.out.five P2.out.six Try.underlying35 rfl (by kernel_rfl) Try.underlying35 rfl (by kernel_rfl)) rfl ⟨rfl, P2.out.below _ _ (by omega) (by omega) HW.out⟩
end Go.Proofs.Ytlmabdiodopidaa.G
end
section
set_option linter.unusedVariables false
set_option linter.unusedSimpArgs false
namespace Go.Proofs.Ytlmabdiodopidaa.G
set_option maxRecDepth 100000
open Go.RowKit Go.Proofs.YtlmabdiodopidaaW.PrintWords Go.Proofs.YtlmabdiodopidaaW.PrintLast Go.Proofs.YtlmabdiodopidaaW.PrintMore Go.Proofs.Ytlmabdiodopidaa.P
/-- a day of the calendar -/
def vd (day : Int) : Bool := decide (0 ≤ day) && decide (day ≤ 73048)
theorem vd_f (day : Int) : date_Valid.f day = some (vd day) := by
  unfold date_Valid.f vd
  by_cases h : 0 ≤ day
  · rw [if_pos h]; simp [h]
  · rw [if_neg h]; simp [h]
/-- what Day answers -/
def DayAns (b : Bk) (id day a0 a1 bal chi clo dhi dlo e : Int) : Prop :=
  ((findA id b.accs).2 = false ∧ a0 = 0 ∧ a1 = 0 ∧ bal = 0 ∧ chi = 0 ∧ clo = 0 ∧ dhi = 0 ∧ dlo = 0 ∧ e = 11) ∨
  ((findA id b.accs).2 = true ∧ vd day = false ∧ a0 = 0 ∧ a1 = 0 ∧ bal = 0 ∧ chi = 0 ∧ clo = 0 ∧ dhi = 0 ∧ dlo = 0 ∧ e = 1) ∨
  ((findA id b.accs).2 = true ∧ vd day = true ∧ a0 = id ∧ a1 = day ∧ DayIs b id day bal chi clo dhi dlo ∧ e = 0)
theorem daily_calls (cs : List Value) (id : Int) (w : World) :
    Calls Try.prog 53 #[.agg cs.toArray, .int .i64 id] w fun e w' => e = .returned (.func (.func 75) #[] #[.pointer (some ⟨w.heap.size + 1, 0, none⟩), .pointer (some ⟨w.heap.size, 0, none⟩)]) ∧ w' = (w.alloc (.cells cs.toArray 63)).alloc (.cells #[.int .i64 id] 3) := by
  go_enter Try.func53, Try.ntmps53
  go_wp2
  go_ret
  exact ⟨by simp, rfl⟩
abbrev zAc : List Value := acL 0 0 0 0 0 0 0
set_option maxHeartbeats 2000000 in
theorem day_calls (cs : List Value) (b : Bk) (id day a0 a1 bal chi clo dhi dlo er : Int) (w0 w : World) (hb0 : Below w0.heap.size w0 w) (hk : kBk.K w0 b cs) (hf : FewT b.prods) (hd : DayAns b id day a0 a1 bal chi clo dhi dlo er) :
    Calls Try.prog 31 #[.agg cs.toArray, .int .i64 id, .int .i64 day] w fun e w' => e = .returned (.tuple #[.agg (acL a0 a1 bal chi clo dhi dlo).toArray, .int .i64 er]) ∧ Below w.heap.size w w' := by
  obtain ⟨A1, c1, A2, c2, A3, c3, hl, -, -, -, -, -, -, -, -, -⟩ := bk_get hk
  have HB0 := Aside0.mk hb0
  have HK := Aside0.mk hk
  have HL := Aside0.mk hl
  have HF := Aside0.mk hf
  have HD := Aside0.mk hd
  clear hb0 hk hl hf hd
  have HW := Aside0.mk (((Below.refl w.heap.size w).alloc (Nat.le_refl _) (.cells cs.toArray 63)).alloc (by simp) (.cells zAc.toArray 66))
  have K0 := Aside0.mk ((Blk.new w cs 63).alloc (.cells zAc.toArray 66))
  have R0 := Aside0.mk (Blk.newAt (w.alloc (.cells cs.toArray 63)) (g := w.heap.size + 1) (by simp) zAc 66)
  go_enter Try.func31, Try.ntmps31
  go_upto_region 2 with (first
    | (refine ld_rng rfl 63 _ rfl (p := ⟨w.heap.size, 0, none⟩) rfl (cs := cs) K0.out.rng Try.underlying63 rfl ?_ ?_; (rw [HL.out]; kernel_rfl))
    | (go_at_call 51; refine (find_calls cs b id w0 _ (bstep HB0.out HW.out) HK.out).mono ?_; rintro e w1 ⟨ca, rfl, hca, hb1⟩; have CA := Aside0.mk hca; have CL := Aside0.mk (acc_get hca).1; have K1 := Aside0.mk ((K0.out.below hb1).alloc (.cells ca.toArray 101)); have R1 := Aside0.mk ((R0.out.below hb1).alloc (.cells ca.toArray 101)); have HW1 := Aside0.mk ((bstep HW.out hb1).alloc (bstep HW.out hb1).size (.cells ca.toArray 101)); clear hb1 hca)
    | (refine st_new rfl 101 _ _ rfl rfl (cs := zAccs) (vs := ca) rfl rfl CL.out ?_ (kAcc.K_one CA.out) ?_; (rw [CL.out]; kernel_rfl)))
  clear HW K0 R0
  generalize w1.alloc (.cells ca.toArray 101) = W1 at *
  generalize w1.heap.size = Ba at *
  have hd := HD.out
  unfold DayAns at hd
  generalize (findA id b.accs).2 = is at *
  clear HD CA
  rcases hd with ⟨rfl, rfl, rfl, rfl, rfl, rfl, rfl, rfl, rfl⟩ | ⟨rfl, hv, rfl, rfl, rfl, rfl, rfl, rfl, rfl, rfl⟩ | ⟨rfl, hv, rfl, rfl, hdi, rfl⟩
  · go_wp2_with (first
      | (refine st_blk rfl 66 _ _ rfl rfl (g := w.heap.size + 1) (vs := zAc) rfl rfl R1.out rfl ?_ (by simp [Value.oneCell']) ?_; kernel_rfl; intro B3))
    exact bodyPost_ret (ret_cell_tmp Try.results31 _ _ rfl rfl B3 Try.underlying66 rfl (by kernel_rfl)) rfl ⟨rfl, Below.setCells _ (by omega) _ _ HW1.out⟩
  · have HV := Aside0.mk hv
    clear hv
    go_wp2_with (first
      | (go_at_call 52; refine (date_Valid.calls day false _ (by rw [vd_f, HV.out])).mono ?_; rintro e w2 ⟨rfl, ⟨nd, rfl⟩⟩; have R2 := Aside0.mk (R1.out.drewN (n := nd)); have HW2 := Aside0.mk (pw_below_drewN HW1.out nd))
      | (refine st_blk rfl 66 _ _ rfl rfl (g := w.heap.size + 1) (vs := zAc) rfl rfl R2.out rfl ?_ (by simp [Value.oneCell']) ?_; kernel_rfl; intro B3))
    exact bodyPost_ret (ret_cell_tmp Try.results31 _ _ rfl rfl B3 Try.underlying66 rfl (by kernel_rfl)) rfl ⟨rfl, Below.setCells _ (by omega) _ _ HW2.out⟩
  · have HV := Aside0.mk hv
    have HDI := Aside0.mk hdi
    clear hv hdi
    go_wp2_with (first
      | (go_at_call 52; refine (date_Valid.calls _ true _ (by rw [vd_f, HV.out])).mono ?_; rintro e w2 ⟨rfl, ⟨nd, rfl⟩⟩; have R2 := Aside0.mk (R1.out.drewN (n := nd)); have K2 := Aside0.mk (K1.out.drewN (n := nd)); have HW2 := Aside0.mk (pw_below_drewN HW1.out nd))
      | (refine ld_rng rfl 63 _ rfl (p := ⟨w.heap.size, 0, none⟩) rfl (cs := cs) K2.out.rng Try.underlying63 rfl ?_ ?_; (rw [HL.out]; kernel_rfl))
      | (go_at_call 53; refine (daily_calls cs _ _).mono ?_; rintro e w3 ⟨rfl, rfl⟩; have I3 := Aside0.mk (Blk.newAt ((W1.drewN nd).alloc (.cells cs.toArray 63)) (g := W1.heap.size + 1) (by simp) [.int .i64 a0] 3); have K3 := Aside0.mk ((Blk.newAt (W1.drewN nd) (g := W1.heap.size) (by simp) cs 63).alloc (.cells #[.int .i64 a0] 3)); have HW3 := Aside0.mk ((HW2.out.alloc HW2.out.size (.cells cs.toArray 63)).alloc (HW2.out.alloc HW2.out.size (.cells cs.toArray 63)).size (.cells #[.int .i64 a0] 3)); have R3 := Aside0.mk ((R2.out.alloc (.cells cs.toArray 63)).alloc (.cells #[.int .i64 a0] 3)))
      | (go_at_call 75; refine (daily1_calls cs b a0 a1 bal chi clo dhi dlo (W1.heap.size + 1) W1.heap.size w0 _ (bstep HB0.out HW3.out) HK.out I3.out K3.out HF.out HDI.out).mono ?_; rintro e w4 ⟨rfl, hb4⟩; have R4 := Aside0.mk (R3.out.below hb4); have HW4 := Aside0.mk (bstep HW3.out hb4); clear hb4)
      | (refine st_blk rfl 66 _ _ rfl rfl (g := w.heap.size + 1) (vs := acL a0 a1 bal chi clo dhi dlo) rfl rfl R4.out rfl ?_ (by simp [Value.oneCell']) ?_; kernel_rfl; intro B3))
    exact bodyPost_ret (ret_cell_tmp Try.results31 _ _ rfl rfl B3 Try.underlying66 rfl (by kernel_rfl)) rfl ⟨rfl, Below.setCells _ (by omega) _ _ HW4.out⟩
end Go.Proofs.Ytlmabdiodopidaa.G
end
section
set_option linter.unusedVariables false
set_option linter.unusedSimpArgs false
namespace Go.Proofs.Ytlmabdiodopidaa.G
set_option maxRecDepth 100000
open Go.RowKit Go.Proofs.YtlmabdiodopidaaW.PrintWords Go.Proofs.YtlmabdiodopidaaW.PrintLast Go.Proofs.YtlmabdiodopidaaW.PrintMore Go.Proofs.Ytlmabdiodopidaa.P
/-- days from a day to a day, that are not too many -/
def serOk (f t : Int) : Bool := vd f && (vd t && (decide (f ≤ t) && decide (t - f < 4000)))
/-- the accrual of a day -/
def IsAcc (b : Bk) (id day : Int) (x : S66) : Prop := x.f0 = id ∧ x.f1 = day ∧ DayIs b id day x.f2 x.f3.f0 x.f3.f1 x.f4.f0 x.f4.f1
/-- the accruals of the first days from f on -/
def AccTo (b : Bk) (id f : Int) (l : List S66) : Prop := ∀ i (h : i < l.length), IsAcc b id (f + i) l[i]
/-- what Series answers -/
def SerAns (b : Bk) (id f t : Int) (l : List S66) (e : Int) : Prop :=
  ((findA id b.accs).2 = false ∧ l = [] ∧ e = 11) ∨ ((findA id b.accs).2 = true ∧ serOk f t = false ∧ l = [] ∧ e = 1) ∨
  ((findA id b.accs).2 = true ∧ serOk f t = true ∧ (l.length : Int) = t - f + 1 ∧ AccTo b id f l ∧ e = 0)
theorem vd_bd {d : Int} (h : vd d = true) : 0 ≤ d ∧ d ≤ 73048 := by
  unfold vd at h
  simpa using h
theorem serOk_all {f t : Int} (h : serOk f t = true) : vd f = true ∧ vd t = true ∧ f ≤ t ∧ t - f < 4000 := by
  unfold serOk at h
  simpa using h
theorem valid_any (day : Int) (w : World) : Calls Try.prog 52 #[.int .i64 day] w fun e w' => e = .returned (.bool (vd day)) ∧ Drawn0 w w' := date_Valid.calls day (vd day) w (vd_f day)
set_option maxHeartbeats 2000000 in
theorem series_calls (cs : List Value) (b : Bk) (id f t : Int) (l : List S66) (er : Int) (w0 w : World) (hb0 : Below w0.heap.size w0 w) (hk : kBk.K w0 b cs) (hf : FewT b.prods) (hd : SerAns b id f t l er) :
    Calls Try.prog 33 #[.agg cs.toArray, .int .i64 id, .int .i64 f, .int .i64 t] w fun e w' => ∃ v, e = .returned (.tuple #[v, .int .i64 er]) ∧ Kd.R k66 66 w' w.heap.size (fun _ => True) v l ∧ Below w.heap.size w w' := by
  obtain ⟨A1, c1, A2, c2, A3, c3, hl, -, -, -, -, -, -, -, -, -⟩ := bk_get hk
  have HB0 := Aside0.mk hb0
  have HK := Aside0.mk hk
  have HL := Aside0.mk hl
  have HF := Aside0.mk hf
  have HD := Aside0.mk hd
  clear hb0 hk hl hf hd
  have HW := Aside0.mk ((Below.refl w.heap.size w).alloc (Nat.le_refl _) (.cells cs.toArray 63))
  have K0 := Aside0.mk (Blk.new w cs 63)
  go_enter Try.func33, Try.ntmps33
  go_upto_region 2 with (first
    | (refine ld_rng rfl 63 _ rfl (p := ⟨w.heap.size, 0, none⟩) rfl (cs := cs) K0.out.rng Try.underlying63 rfl ?_ ?_; (rw [HL.out]; kernel_rfl))
    | (go_at_call 51; refine (find_calls cs b id w0 _ (bstep HB0.out HW.out) HK.out).mono ?_; rintro e w1 ⟨ca, rfl, hca, hb1⟩; have CA := Aside0.mk hca; have CL := Aside0.mk (acc_get hca).1; have K1 := Aside0.mk ((K0.out.below hb1).alloc (.cells ca.toArray 101)); have HW1 := Aside0.mk ((bstep HW.out hb1).alloc (bstep HW.out hb1).size (.cells ca.toArray 101)); clear hb1 hca)
    | (refine st_new rfl 101 _ _ rfl rfl (cs := zAccs) (vs := ca) rfl rfl CL.out ?_ (kAcc.K_one CA.out) ?_; (rw [CL.out]; kernel_rfl)))
  clear HW K0
  generalize w1.alloc (.cells ca.toArray 101) = W1 at *
  generalize w1.heap.size = Ba at *
  have hd := HD.out
  unfold SerAns at hd
  generalize (findA id b.accs).2 = is at *
  clear HD CA
  rcases hd with ⟨rfl, rfl, rfl⟩ | ⟨rfl, hv, rfl, rfl⟩ | ⟨rfl, hv, hlen, hacc, rfl⟩
  · go_wp2
    go_ret2
    exact ⟨_, rfl, ⟨by simp [Value.ownBlock], [], ⟨rfl, .inl ⟨rfl, rfl⟩⟩, Reps.none _ _⟩, HW1.out⟩
  · unfold serOk at hv
    cases c1 : vd f
    · clear hv
      go_wp2_with (first | (go_at_call 52; refine (valid_any _ _).mono ?_; rintro e w2 ⟨rfl, ⟨nd, rfl⟩⟩))
      go_ret2
      refine ⟨_, rfl, ⟨by simp [Value.ownBlock], [], ⟨rfl, .inl ⟨rfl, rfl⟩⟩, Reps.none _ _⟩, ?_⟩
      repeat (first | exact HW1.out | refine pw_below_drewN ?_ _)
    · cases c2 : vd t
      · clear hv
        go_wp2_with (first | (go_at_call 52; refine (valid_any _ _).mono ?_; rintro e w2 ⟨rfl, ⟨nd, rfl⟩⟩))
        go_ret2
        refine ⟨_, rfl, ⟨by simp [Value.ownBlock], [], ⟨rfl, .inl ⟨rfl, rfl⟩⟩, Reps.none _ _⟩, ?_⟩
        repeat (first | exact HW1.out | refine pw_below_drewN ?_ _)
      · have bf := vd_bd c1
        have bt := vd_bd c2
        by_cases q3 : f ≤ t
        · have q4 : ¬ t - f < 4000 := by
            intro q
            rw [c1, c2] at hv
            simp [q3] at hv
            omega
          clear hv
          go_wp2_with (first | (go_at_call 52; refine (valid_any _ _).mono ?_; rintro e w2 ⟨rfl, ⟨nd, rfl⟩⟩))
          go_ret2
          refine ⟨_, rfl, ⟨by simp [Value.ownBlock], [], ⟨rfl, .inl ⟨rfl, rfl⟩⟩, Reps.none _ _⟩, ?_⟩
          repeat (first | exact HW1.out | refine pw_below_drewN ?_ _)
        · clear hv
          go_wp2_with (first | (go_at_call 52; refine (valid_any _ _).mono ?_; rintro e w2 ⟨rfl, ⟨nd, rfl⟩⟩))
          go_ret2
          refine ⟨_, rfl, ⟨by simp [Value.ownBlock], [], ⟨rfl, .inl ⟨rfl, rfl⟩⟩, Reps.none _ _⟩, ?_⟩
          repeat (first | exact HW1.out | refine pw_below_drewN ?_ _)
  · obtain ⟨c1, c2, q3, q4⟩ := serOk_all hv
    have bf := vd_bd c1
    have bt := vd_bd c2
    have ACC := Aside0.mk hacc
    have LEN := Aside0.mk hlen
    clear hv hacc hlen
    go_upto_region 6 with (first | (go_at_call 52; refine (valid_any _ _).mono ?_; rintro e w2 ⟨rfl, ⟨nd, rfl⟩⟩))
    generalize (_ : Nat) + nd = m
    have K2 := Aside0.mk (K1.out.drewN (n := m))
    have HW2 := Aside0.mk (pw_below_drewN HW1.out m)
    generalize W1.drewN m = W2 at *
    clear K1 HW1
    obtain ⟨i0, hi, hz0, hz1, hz2⟩ := info_parts (show (Try.prog.info? 66).map (fun i => (i.zero, i.size, i.bytes)) = some (some (.agg (acL 0 0 0 0 0 0 0).toArray), 7, 56) by kernel_rfl)
    have INF := Aside0.mk (And.intro hi (And.intro hz0 (And.intro hz1 hz2)))
    clear hi hz0 hz1 hz2
    have hn0 : t - f + 1 = ((t - f + 1).toNat : Int) := by omega
    have HN0 := Aside0.mk hn0
    have hlx : (l.length : Int) = t - f + 1 := LEN.out
    have hlen2 : l.length ≤ 4000 := by omega
    have L2 := Aside0.mk hlen2
    clear hn0 hlx
    go_wp2_with (first
      | (refine ld_rng rfl 63 _ rfl (p := ⟨w.heap.size, 0, none⟩) rfl (cs := cs) K2.out.rng Try.underlying63 rfl ?_ ?_; (rw [HL.out]; kernel_rfl))
      | (go_at_call 53; refine (daily_calls cs _ _).mono ?_; rintro e w3 ⟨rfl, rfl⟩)
      | (refine wpList_make_own _ rfl _ _ 70 rfl ((W2.alloc (.cells cs.toArray 63)).alloc (.cells #[.int .i64 id] 3)).heap.size 66 i0 (.agg (acL 0 0 0 0 0 0 0).toArray) 7 Try.underlying70 INF.out.1 INF.out.2.1 INF.out.2.2.1 .i64 .i64 _ (t - f + 1).toNat rfl rfl HN0.out ?mk1 ?mk2 (Nat.le_refl _) ?_; (case mk1 => rw [INF.out.2.2.2]; omega); (case mk2 => unfold maxLen; omega); intro w4 hown hgrow))
    have I3 := Blk.newAt (W2.alloc (.cells cs.toArray 63)) (g := W2.heap.size + 1) (by simp) [.int .i64 id] 3
    have K3 := (Blk.new W2 cs 63).alloc (.cells #[.int .i64 id] 3)
    have hW3 := (HW2.out.alloc HW2.out.size (.cells cs.toArray 63)).alloc (HW2.out.alloc HW2.out.size (.cells cs.toArray 63)).size (.cells #[.int .i64 id] 3)
    have hsz : ((W2.alloc (.cells cs.toArray 63)).alloc (.cells #[.int .i64 id] 3)).heap.size = W2.heap.size + 2 := by simp
    have hNN : ((W2.alloc (.cells cs.toArray 63)).alloc (.cells #[.int .i64 id] 3)).heap.size = W2.heap.size + 1 + 1 := by simp
    generalize hW3g : (W2.alloc (.cells cs.toArray 63)).alloc (.cells #[.int .i64 id] 3) = W3 at *
    clear hW3g
    obtain ⟨N, hN⟩ : ∃ N, N = W2.heap.size + 1 + 1 := ⟨_, rfl⟩
    rw [hNN] at hown hsz
    rw [← hN] at hown hNN
    have HN := Aside0.mk hNN
    clear hNN
    have hb4 : Below N W3 w4 := (Below.refl N W3).grown hgrow (by rw [HN.out]; exact Nat.le_refl _) (fun k e => by cases e)
    have I4 := Aside0.mk (I3.belowN hb4 (by omega))
    have K4 := Aside0.mk (K3.belowN hb4 (by omega))
    have HW4 := Aside0.mk (hW3.trans (hb4.mono (by have := hW3.size; rw [HN.out] at this; omega)))
    have R4 : Kd.R k66 66 w4 N (fun _ => True) (.slice (some ⟨N, 0, none⟩) 0 (t - f + 1).toNat) [] := ⟨fun _ _ => trivial, [], hown, Reps.none _ _⟩
    have R4 := Aside0.mk R4
    have HN4 := Aside0.mk (show N ≤ w4.heap.size by have := hb4.size; rw [HN.out] at this; exact this)
    clear hown hgrow I3 K3 hW3 hsz hb4
    subst hN
    go_loopw [13, 14] (fun ov dv wr => ∃ (x : Nat), x ≤ l.length ∧ dv = .int .i64 (f + x) ∧ Aside0 (Kd.R k66 66 wr (W2.heap.size + 1 + 1) (fun _ => True) ov (l.take x)) ∧ Aside0 (Below (W2.heap.size + 1 + 1) w4 wr)) (fun _ dv _ => (t + 1 - intOf dv).toNat)
    case atStart => exact ⟨0, by omega, by simp, R4, ⟨Below.refl _ _⟩⟩
    case round =>
      obtain ⟨x, k1, rfl, hR, hB⟩ := hrel
      have hll : (l.length : Int) = t - f + 1 := LEN.out
      have SZ := Aside0.mk (show W2.heap.size + 1 + 1 ≤ wr.heap.size from Nat.le_trans HN4.out hB.out.size)
      by_cases hlt : x < l.length
      · have hle : f + x ≤ t := by omega
        have h73 : f + x ≤ 73048 := by omega
        obtain ⟨a0, a1, hdi⟩ := ACC.out x hlt
        have hM : ∀ W, Kd.M k66 W (W2.heap.size + 1 + 1) (fun _ => False) l[x] (acL id (f + x) l[x].f2 l[x].f3.f0 l[x].f3.f1 l[x].f4.f0 l[x].f4.f1) := fun W => by
          have := k66_mkM W (W2.heap.size + 1 + 1) (fun _ => False) l[x]
          rw [a0, a1] at this
          exact this
        have HM := Aside0.mk hM
        have HDI := Aside0.mk hdi
        have htk : l.take (x + 1) = l.take x ++ [l[x]] := List.take_succ_eq_append_getElem hlt
        have TK := Aside0.mk htk
        have I5 := Aside0.mk (I4.out.belowN hB.out (by omega))
        have K5 := Aside0.mk (K4.out.belowN hB.out (by omega))
        have HW5 := Aside0.mk (HW4.out.trans (hB.out.mono (by have := HW2.out.size; omega)))
        have hlx : (l.take x).length ≤ 4000 := by have := L2.out; rw [List.length_take]; omega
        have LX56 := Aside0.mk (show ((l.take x).length + 1) * 56 ≤ 140737488355328 by omega)
        clear a0 a1 hdi hM htk hll hlx
        generalize l[x] = xx at *
        go_wp2_with (first
          | (go_at_call 75; refine (daily1_calls cs b id (f + x) xx.f2 xx.f3.f0 xx.f3.f1 xx.f4.f0 xx.f4.f1 (W2.heap.size + 1) W2.heap.size w0 _ (bstep HB0.out HW5.out) HK.out I5.out K5.out HF.out HDI.out).mono ?_; rintro e w6 ⟨rfl, hb6⟩; have R6 := Aside0.mk (Kd.R_below hR.out hb6); have HB6 := Aside0.mk (hB.out.trans (hb6.mono SZ.out)); have SZ6 := Aside0.mk (Nat.le_trans SZ.out hb6.size); clear hb6)
          | (at_builtin; refine Kd.R_append k66 (W2.heap.size + 1 + 1) rfl _ _ 70 66 (.agg (acL 0 0 0 0 0 0 0).toArray) 56 rfl Try.underlying70 (by kernel_rfl) rfl (by decide) (by decide) u13 (l.take x) xx (acL id (f + x) xx.f2 xx.f3.f0 xx.f3.f1 xx.f4.f0 xx.f4.f1) (fun _ => True) (fun _ => False) rfl rfl (HM.out _) (fun _ h => h.elim) (fun _ _ => trivial) R6.out HB6.out SZ6.out ?_ ?_; (exact LX56.out); intro v7 w7 hR7 hB7 hg7 hat7))
        refine ⟨⟨x + 1, by omega, by congr 1; omega, ⟨by rw [TK.out]; exact hR7⟩, ⟨hB7⟩⟩, ?_⟩
        simp [intOf]
        omega
      · have hle : ¬ f + x ≤ t := by omega
        have hxl : l.take x = l := List.take_of_length_le (by omega)
        have HR := hR.out
        rw [hxl] at HR
        have HRR := Aside0.mk HR
        clear HR hxl
        have hws := HW2.out.size
        go_wp2
        go_ret2
        exact ⟨_, rfl, Kd.R_lower HRR.out (by omega), HW4.out.trans (hB.out.mono (by omega))⟩
end Go.Proofs.Ytlmabdiodopidaa.G
end
section
set_option linter.unusedVariables false
set_option linter.unusedSimpArgs false
namespace Go.Proofs.Ytlmabdiodopidaa.G
set_option maxRecDepth 100000
open Go.RowKit Go.Proofs.YtlmabdiodopidaaW.PrintWords Go.Proofs.YtlmabdiodopidaaW.PrintLast Go.Proofs.YtlmabdiodopidaaW.PrintMore Go.Proofs.Ytlmabdiodopidaa.P
/-- the interest of a day, checked -/
def grOk (x : Intr) (bal day hi lo : Int) : Bool :=
  match tier_Slices.f 200 x.tiers x.marg bal, daycount_Weight.f 200 x.basis day with
  | some sl, some wt => match tier_Grains.f 200 sl wt with
    | some (g1, g2, e) => decide (hi = gz e g1) && decide (lo = gz e g2)
    | none => false
  | _, _ => false
theorem gr_of {x : Intr} {bal day hi lo : Int} (h : grOk x bal day hi lo = true) : GrIs x bal day hi lo := by
  unfold grOk at h
  split at h
  · rename_i sl wt h1 h2
    split at h
    · rename_i g1 g2 e h3
      rw [Bool.and_eq_true, decide_eq_true_iff, decide_eq_true_iff] at h
      exact ⟨200, sl, wt, g1, g2, e, h1, h2, h3, h.1, h.2⟩
    · cases h
  · cases h
def samL : List S66 := [⟨1000, 0, 0, ⟨0, 0⟩, ⟨0, 0⟩⟩, ⟨1000, 1, 0, ⟨0, 0⟩, ⟨0, 0⟩⟩, ⟨1000, 2, 100000, ⟨0, 6588000000000⟩, ⟨0, 0⟩⟩, ⟨1000, 3, 100000, ⟨0, 6588000000000⟩, ⟨0, 0⟩⟩, ⟨1000, 4, -100000, ⟨0, 0⟩, ⟨0, 6588000000000⟩⟩]
theorem samFew : FewT samB.prods := by
  intro p hp
  have e : p = samPrd := List.mem_singleton.1 hp
  subst e
  exact ⟨by decide, by decide⟩
theorem sam0 : DayIs samB 1000 0 0 0 0 0 0 := .inl ⟨by decide +kernel, rfl, rfl, rfl, rfl, rfl⟩
theorem sam1 : DayIs samB 1000 1 0 0 0 0 0 := .inr ⟨by decide +kernel, by decide +kernel, .inr ⟨by decide +kernel, .inr (.inr ⟨rfl, rfl, rfl, rfl, rfl⟩)⟩⟩
theorem side_same {b : Bk} {id day bal chi clo dhi dlo : Int} (hs : (sideP (prodA b id day).1 bal).tiers = samIntr.tiers ∧ (sideP (prodA b id day).1 bal).marg = samIntr.marg ∧ (sideP (prodA b id day).1 bal).basis = samIntr.basis) (h : SideIs samIntr bal day chi clo dhi dlo) : SideIs (sideP (prodA b id day).1 bal) bal day chi clo dhi dlo := by
  obtain ⟨h1, h2, h3⟩ := hs
  unfold SideIs GrIs
  rw [h1, h2, h3]
  exact h
theorem sam2 : DayIs samB 1000 2 100000 0 6588000000000 0 0 := .inr ⟨by decide +kernel, by decide +kernel, .inr ⟨by decide +kernel, side_same ⟨by kernel_rfl, by kernel_rfl, by kernel_rfl⟩ (.inl ⟨by decide, gr_of (by decide +kernel), rfl, rfl⟩)⟩⟩
theorem sam3 : DayIs samB 1000 3 100000 0 6588000000000 0 0 := .inr ⟨by decide +kernel, by decide +kernel, .inr ⟨by decide +kernel, side_same ⟨by kernel_rfl, by kernel_rfl, by kernel_rfl⟩ (.inl ⟨by decide, gr_of (by decide +kernel), rfl, rfl⟩)⟩⟩
theorem sam4 : DayIs samB 1000 4 (-100000) 0 0 0 6588000000000 := .inr ⟨by decide +kernel, by decide +kernel, .inr ⟨by decide +kernel, side_same ⟨by kernel_rfl, by kernel_rfl, by kernel_rfl⟩ (.inr (.inl ⟨by decide, gr_of (by decide +kernel), rfl, rfl⟩))⟩⟩
theorem samSer : SerAns samB 1000 0 4 samL 0 := .inr (.inr ⟨by decide +kernel, by decide +kernel, by decide, fun i h => by
  have h5 : i < 5 := h
  have : i = 0 ∨ i = 1 ∨ i = 2 ∨ i = 3 ∨ i = 4 := by omega
  rcases this with rfl | rfl | rfl | rfl | rfl
  · exact ⟨rfl, rfl, sam0⟩
  · exact ⟨rfl, rfl, sam1⟩
  · exact ⟨rfl, rfl, sam2⟩
  · exact ⟨rfl, rfl, sam3⟩
  · exact ⟨rfl, rfl, sam4⟩, rfl⟩)
theorem samDay : DayAns samB 1000 3 1000 3 100000 0 6588000000000 0 0 0 := .inr (.inr ⟨by decide +kernel, by decide +kernel, rfl, rfl, sam3, rfl⟩)
theorem samNone : DayAns samB 1001 3 0 0 0 0 0 0 0 11 := .inl ⟨by decide +kernel, rfl, rfl, rfl, rfl, rfl, rfl, rfl, rfl⟩
theorem samTot : totP wide_Add.f samL 0 0 0 0 = some (0, 13176000000000, 0, 6588000000000, 0) := by decide +kernel
theorem of6 : corebankref01_Of.f 6588000000000 = some (0, 6588000000000) := by decide +kernel
theorem of13 : corebankref01_Of.f 13176000000000 = some (0, 13176000000000) := by decide +kernel
end Go.Proofs.Ytlmabdiodopidaa.G
end
section
set_option linter.unusedVariables false
set_option linter.unusedSimpArgs false
namespace Go.Proofs.Ytlmabdiodopidaa.G
open Go.RowKit Go.Proofs.YtlmabdiodopidaaW.PrintWords Go.Proofs.YtlmabdiodopidaaW.PrintLast Go.Proofs.YtlmabdiodopidaaW.PrintMore Go.Proofs.Ytlmabdiodopidaa.P
theorem cell2 {W : World} {a p p' : Addr} {v u u' : Value} (h : W.cell? a = some v) (h1 : p.block ≠ a.block) (h2 : p'.block ≠ a.block) : ((W.setCell p u).setCell p' u').cell? a = some v := by
  rw [World.cell?_setCell_far _ _ _ _ h2, World.cell?_setCell_far _ _ _ _ h1, h]
/-- the box of a number of two cells -/
structure PBox (N : Nat) (W : World) (g : Nat) : Prop where
  blk : Blk W g zWd 35
  le : N ≤ g
theorem PBox.below {N g : Nat} {W W1 : World} (h : PBox N W g) (hb : Below W.heap.size W W1) : PBox N W1 g := ⟨h.blk.below hb, h.le⟩
theorem PBox.ne {N g B : Nat} {W : World} (h : PBox N W g) (hb : B < N) : g ≠ B := by have := h.le; omega
theorem PBox.c0 {N g : Nat} {W : World} (h : PBox N W g) : W.cell? ⟨g, 0, none⟩ = some (.int .i64 0) := h.blk.cell 0
theorem PBox.c1 {N g : Nat} {W : World} (h : PBox N W g) : W.cell? ⟨g, 1, none⟩ = some (.int .u64 0) := h.blk.cell 1
theorem PBox.z0 {N g : Nat} {W : World} (h : PBox N W g) : W.frozen? ⟨g, 0, none⟩ = false := h.blk.frozen 0
theorem PBox.z1 {N g : Nat} {W : World} (h : PBox N W g) : W.frozen? ⟨g, 1, none⟩ = false := h.blk.frozen 1
end Go.Proofs.Ytlmabdiodopidaa.G
end
section
set_option linter.unusedVariables false
set_option linter.unusedSimpArgs false
namespace Go.Proofs.Ytlmabdiodopidaa.G
set_option maxRecDepth 100000
open Go.RowKit Go.Proofs.YtlmabdiodopidaaW.PrintWords Go.Proofs.YtlmabdiodopidaaW.PrintLast Go.Proofs.YtlmabdiodopidaaW.PrintMore Go.Proofs.Ytlmabdiodopidaa.P
theorem of_any {a r1 r2 : Int} (h : corebankref01_Of.f a = some (r1, r2)) (w : World) : Calls Try.prog 41 #[.int .i64 a] w fun e w' => e = .returned (.agg #[.int .i64 r1, .int .u64 r2]) ∧ Below w.heap.size w w' := corebankref01_Of.calls a r1 r2 w h
set_option maxHeartbeats 4000000 in
theorem lives_calls (w : World) :
    Calls Try.prog 30 #[] w fun e w' => e = .returned (.bool true) ∧ Below w.heap.size w w' := by
  go_enter Try.func30, Try.ntmps30
  go_upto_region 2 with (first
    | (go_at_call 41; refine (of_any of6 _).mono ?_; rintro e w1 ⟨rfl, hb1⟩; have HB1 := Aside0.mk hb1; clear hb1))
  have G1 := Aside0.mk (Blk.new w1 [.int .i64 0, .int .u64 6588000000000] 35)
  have HW := Aside0.mk (HB1.out.alloc HB1.out.size (.cells [.int .i64 0, .int .u64 6588000000000].toArray 35))
  have O1 := Aside0.mk HB1.out.size
  clear HB1
  generalize World.alloc _ _ = W1 at *
  generalize w1.heap.size = gd at *
  go_upto_region 5 with (first
    | (go_at_call 50; refine (sample_calls _).mono ?_; rintro e w2 ⟨cs, rfl, hk2, hb2⟩; have HK2 := Aside0.mk hk2; have HB2 := Aside0.mk hb2; clear hk2 hb2)
    | (go_at_call 33; refine (series_calls cs samB 1000 0 4 samL 0 w2 w2 (Below.refl _ _) HK2.out samFew samSer).mono ?_; rintro e w3 ⟨v, rfl, hr, hb3⟩; obtain ⟨A, c, hv, -, hC⟩ := Kd.R_reads hr; have hv5 : v = .slice A 5 c := hv; subst hv5; have HC := Aside0.mk hC; have HB3 := Aside0.mk hb3; clear hr hb3 hv hC))
  have HW3 := Aside0.mk (bstep (bstep HW.out HB2.out) HB3.out)
  have G3 := Aside0.mk ((G1.out.below HB2.out).below HB3.out)
  obtain ⟨ad, ce, hA, hcl, hcK, hcR⟩ := row_at HC.out Go.Proofs.Ytlmabdiodopidaa.P.z66 (4 : Int) (by omega) (by decide)
  obtain ⟨ad', cf, hA', hfl, hfK, hfR⟩ := row_at HC.out Go.Proofs.Ytlmabdiodopidaa.P.z66 (0 : Int) (by omega) (by decide)
  subst hA
  cases hA'
  have hce : ce = acL 1000 4 (-100000) 0 0 0 6588000000000 := k66_open hcK
  have hcf : cf = acL 1000 0 0 0 0 0 0 := k66_open hfK
  subst hce
  subst hcf
  have R4 := Aside0.mk hcR
  have R0 := Aside0.mk hfR
  clear hcl hcK hcR hfl hfK hfR HW G1 HK2 HB2 HB3
  go_upto_region 6 with (first
    | (go_at_call 50; refine (sample_calls _).mono ?_; rintro e w4 ⟨cs, rfl, hk2, hb2⟩; have HK2 := Aside0.mk hk2; have HB2 := Aside0.mk hb2; clear hk2 hb2)
    | (go_at_call 31; refine (day_calls cs samB 1000 3 1000 3 100000 0 6588000000000 0 0 0 w4 w4 (Below.refl _ _) HK2.out samFew samDay).mono ?_; rintro e w5 ⟨rfl, hb3⟩; have HB3 := Aside0.mk hb3; clear hb3))
  have hb5 := bstep HB2.out HB3.out
  have G5 := Aside0.mk ((G3.out.below hb5).alloc (.cells (acL 1000 3 100000 0 6588000000000 0 0).toArray 66))
  have D5 := Aside0.mk (Blk.new w5 (acL 1000 3 100000 0 6588000000000 0 0) 66)
  have HL5 := Aside0.mk (hb5.alloc hb5.size (.cells (acL 1000 3 100000 0 6588000000000 0 0).toArray 66))
  have O5 := Aside0.mk (Nat.le_trans (Nat.le_trans O1.out (Nat.le_of_lt G3.out.lt)) hb5.size)
  clear hb5 HK2 HB2 HB3 G3
  generalize World.alloc _ _ = W5 at *
  generalize w5.heap.size = ge at *
  go_upto_region 7 with (first
    | (go_at_call 50; refine (sample_calls _).mono ?_; rintro e w6 ⟨cs, rfl, hk2, hb2⟩; have HK2 := Aside0.mk hk2; have HB2 := Aside0.mk hb2; clear hk2 hb2)
    | (go_at_call 31; refine (day_calls cs samB 1001 3 0 0 0 0 0 0 0 11 w6 w6 (Below.refl _ _) HK2.out samFew samNone).mono ?_; rintro e w7 ⟨rfl, hb3⟩; have HB3 := Aside0.mk hb3; clear hb3))
  have hb7 := bstep HB2.out HB3.out
  have G7 := Aside0.mk ((G5.out.below hb7).alloc (.cells (acL 0 0 0 0 0 0 0).toArray 66))
  have D7 := Aside0.mk ((D5.out.below hb7).alloc (.cells (acL 0 0 0 0 0 0 0).toArray 66))
  have HL7 := Aside0.mk (bstep HL5.out (hb7.alloc hb7.size (.cells (acL 0 0 0 0 0 0 0).toArray 66)))
  clear hb7 HK2 HB2 HB3 G5 D5 HL5
  generalize World.alloc _ _ = W7 at *
  generalize w7.heap.size = gu at *
  go_upto_region 8 with (first
    | (go_at_call 36; refine (total_calls (some ad) c samL 0 13176000000000 0 6588000000000 0 w3 W7 HL7.out HC.out samTot).mono ?_; rintro e w8 ⟨rfl, hb8⟩; have HB8 := Aside0.mk hb8; clear hb8))
  have G8 := Aside0.mk (((G7.out.below HB8.out).alloc (.cells [.int .i64 0, .int .u64 13176000000000].toArray 35)).alloc (.cells [.int .i64 0, .int .u64 6588000000000].toArray 35))
  have D8 := Aside0.mk (((D7.out.below HB8.out).alloc (.cells [.int .i64 0, .int .u64 13176000000000].toArray 35)).alloc (.cells [.int .i64 0, .int .u64 6588000000000].toArray 35))
  have T81 := Aside0.mk ((Blk.new w8 [.int .i64 0, .int .u64 13176000000000] 35).alloc (.cells [.int .i64 0, .int .u64 6588000000000].toArray 35))
  have T82 := Aside0.mk (Blk.newAt (w8.alloc (.cells [.int .i64 0, .int .u64 13176000000000].toArray 35)) (g := w8.heap.size + 1) (by simp) [.int .i64 0, .int .u64 6588000000000] 35)
  have hl8 := bstep HL7.out HB8.out
  have HL8 := Aside0.mk ((hl8.alloc hl8.size (.cells [.int .i64 0, .int .u64 13176000000000].toArray 35)).alloc (by have := hl8.size; simp; omega) (.cells [.int .i64 0, .int .u64 6588000000000].toArray 35))
  clear hl8 HB8 G7 D7 HL7
  generalize World.alloc _ _ = W8 at *
  generalize hg2 : w8.heap.size + 1 = g2 at *
  generalize w8.heap.size = g1 at *
  clear hg2
  have R48 : Aside0 (Rng W8 (ad.add (4 * 7)) (acL 1000 4 (-100000) 0 0 0 6588000000000)) := ⟨R4.out.below HL8.out⟩
  have R08 : Aside0 (Rng W8 (ad.add (0 * 7)) (acL 1000 0 0 0 0 0 0)) := ⟨R0.out.below HL8.out⟩
  have HW8 := Aside0.mk (bstep HW3.out HL8.out)
  have y0 : W8.cell? ⟨ge, 0, none⟩ = some (.int .i64 1000) := D8.out.cell 0
  have y1 : W8.cell? ⟨ge, 1, none⟩ = some (.int .i64 3) := D8.out.cell 1
  have y2 : W8.cell? ⟨ge, 2, none⟩ = some (.int .i64 100000) := D8.out.cell 2
  have y3 : W8.cell? ⟨ge, 3, none⟩ = some (.int .i64 0) := D8.out.cell 3
  have y4 : W8.cell? ⟨ge, 4, none⟩ = some (.int .u64 6588000000000) := D8.out.cell 4
  have y5 : W8.cell? ⟨ge, 5, none⟩ = some (.int .i64 0) := D8.out.cell 5
  have y6 : W8.cell? ⟨ge, 6, none⟩ = some (.int .u64 0) := D8.out.cell 6
  have y7 : W8.cell? ⟨ad.block, ad.off + 28, none⟩ = some (.int .i64 1000) := R48.out.at0 rfl
  have y8 : W8.cell? ⟨ad.block, ad.off + 28 + 1, none⟩ = some (.int .i64 4) := R48.out.at_ 1 (by omega) rfl
  have y9 : W8.cell? ⟨ad.block, ad.off + 28 + 2, none⟩ = some (.int .i64 (-100000)) := R48.out.at_ 2 (by omega) rfl
  have y10 : W8.cell? ⟨ad.block, ad.off + 28 + 3, none⟩ = some (.int .i64 0) := R48.out.at_ 3 (by omega) rfl
  have y11 : W8.cell? ⟨ad.block, ad.off + 28 + 4, none⟩ = some (.int .u64 0) := R48.out.at_ 4 (by omega) rfl
  have y12 : W8.cell? ⟨ad.block, ad.off + 28 + 5, none⟩ = some (.int .i64 0) := R48.out.at_ 5 (by omega) rfl
  have y13 : W8.cell? ⟨ad.block, ad.off + 28 + 6, none⟩ = some (.int .u64 6588000000000) := R48.out.at_ 6 (by omega) rfl
  have y14 : W8.cell? ad = some (.int .i64 1000) := R08.out.at0 rfl
  have y15 : W8.cell? ⟨ad.block, ad.off + 1, none⟩ = some (.int .i64 0) := R08.out.at_ 1 (by omega) rfl
  have y16 : W8.cell? ⟨ad.block, ad.off + 2, none⟩ = some (.int .i64 0) := R08.out.at_ 2 (by omega) rfl
  have y17 : W8.cell? ⟨ad.block, ad.off + 3, none⟩ = some (.int .i64 0) := R08.out.at_ 3 (by omega) rfl
  have y18 : W8.cell? ⟨ad.block, ad.off + 4, none⟩ = some (.int .u64 0) := R08.out.at_ 4 (by omega) rfl
  have y19 : W8.cell? ⟨ad.block, ad.off + 5, none⟩ = some (.int .i64 0) := R08.out.at_ 5 (by omega) rfl
  have y20 : W8.cell? ⟨ad.block, ad.off + 6, none⟩ = some (.int .u64 0) := R08.out.at_ 6 (by omega) rfl
  have y21 : W8.cell? ⟨gd, 0, none⟩ = some (.int .i64 0) := G8.out.cell 0
  have y22 : W8.cell? ⟨gd, 1, none⟩ = some (.int .u64 6588000000000) := G8.out.cell 1
  have y23 : W8.cell? ⟨g1, 0, none⟩ = some (.int .i64 0) := T81.out.cell 0
  have y24 : W8.cell? ⟨g1, 1, none⟩ = some (.int .u64 13176000000000) := T81.out.cell 1
  have y25 : W8.cell? ⟨g2, 0, none⟩ = some (.int .i64 0) := T82.out.cell 0
  have y26 : W8.cell? ⟨g2, 1, none⟩ = some (.int .u64 6588000000000) := T82.out.cell 1
  clear G8 D8 T81 T82 R48 R08 R4 R0 HL8 HW3 HC
  go_region_held3 (fun w' => w'.cell? ⟨ge, 0, none⟩ = some (.int .i64 1000) ∧ w'.cell? ⟨ge, 1, none⟩ = some (.int .i64 3) ∧ w'.cell? ⟨ge, 2, none⟩ = some (.int .i64 100000) ∧ w'.cell? ⟨ge, 3, none⟩ = some (.int .i64 0) ∧ w'.cell? ⟨ge, 4, none⟩ = some (.int .u64 6588000000000) ∧ w'.cell? ⟨ge, 5, none⟩ = some (.int .i64 0) ∧ w'.cell? ⟨ge, 6, none⟩ = some (.int .u64 0) ∧ w'.cell? ⟨ad.block, ad.off + 28, none⟩ = some (.int .i64 1000) ∧ w'.cell? ⟨ad.block, ad.off + 28 + 1, none⟩ = some (.int .i64 4) ∧ w'.cell? ⟨ad.block, ad.off + 28 + 2, none⟩ = some (.int .i64 (-100000)) ∧ w'.cell? ⟨ad.block, ad.off + 28 + 3, none⟩ = some (.int .i64 0) ∧ w'.cell? ⟨ad.block, ad.off + 28 + 4, none⟩ = some (.int .u64 0) ∧ w'.cell? ⟨ad.block, ad.off + 28 + 5, none⟩ = some (.int .i64 0) ∧ w'.cell? ⟨ad.block, ad.off + 28 + 6, none⟩ = some (.int .u64 6588000000000) ∧ w'.cell? ad = some (.int .i64 1000) ∧ w'.cell? ⟨ad.block, ad.off + 1, none⟩ = some (.int .i64 0) ∧ w'.cell? ⟨ad.block, ad.off + 2, none⟩ = some (.int .i64 0) ∧ w'.cell? ⟨ad.block, ad.off + 3, none⟩ = some (.int .i64 0) ∧ w'.cell? ⟨ad.block, ad.off + 4, none⟩ = some (.int .u64 0) ∧ w'.cell? ⟨ad.block, ad.off + 5, none⟩ = some (.int .i64 0) ∧ w'.cell? ⟨ad.block, ad.off + 6, none⟩ = some (.int .u64 0) ∧ w'.cell? ⟨gd, 0, none⟩ = some (.int .i64 0) ∧ w'.cell? ⟨gd, 1, none⟩ = some (.int .u64 6588000000000) ∧ w'.cell? ⟨g1, 0, none⟩ = some (.int .i64 0) ∧ w'.cell? ⟨g1, 1, none⟩ = some (.int .u64 13176000000000) ∧ w'.cell? ⟨g2, 0, none⟩ = some (.int .i64 0) ∧ w'.cell? ⟨g2, 1, none⟩ = some (.int .u64 6588000000000))
    (first
      | exact ⟨y0, y1, y2, y3, y4, y5, y6, y7, y8, y9, y10, y11, y12, y13, y14, y15, y16, y17, y18, y19, y20, y21, y22, y23, y24, y25, y26⟩
      | go_keep
      | (go_split_ands
         refine ⟨?_, ?_, ?_, ?_, ?_, ?_, ?_, ?_, ?_, ?_, ?_, ?_, ?_, ?_, ?_, ?_, ?_, ?_, ?_, ?_, ?_, ?_, ?_, ?_, ?_, ?_, ?_⟩ <;> exact keepc hb9 (by assumption))
      | fail)
    (first
      | (go_at_call 41; refine (of_any of13 _).mono ?_; rintro e w9 ⟨rfl, hb9⟩)
      | fail)
  have hb : Below w.heap.size w w9 := bstep HW8.out (by first | exact bstep (pw_below_drewN (Below.refl _ W8) _) hb9 | exact bstep (Below.refl _ W8).drew hb9)
  go_wp2
  go_ret
  exact ⟨rfl, hb⟩
end Go.Proofs.Ytlmabdiodopidaa.G
end
section
set_option linter.unusedVariables false
set_option linter.unusedSimpArgs false
namespace Go.Proofs.Ytlmabdiodopidaa.G
set_option maxRecDepth 100000
open Go.RowKit Go.Proofs.YtlmabdiodopidaaW.PrintWords Go.Proofs.YtlmabdiodopidaaW.PrintLast Go.Proofs.YtlmabdiodopidaaW.PrintMore Go.Proofs.Ytlmabdiodopidaa.P
set_option maxHeartbeats 1000000 in
theorem rfind_calls (cs : List Value) (b : Bk) (id : Int) (w0 w : World) (hb0 : Below w0.heap.size w0 w) (hk : kBk.K w0 b cs) :
    Calls Try.prog 54 #[.agg cs.toArray, .int .i64 id] w fun e w' => ∃ ca, e = .returned (.tuple #[.agg ca.toArray, .bool (findA id b.accs).2]) ∧ kAcc.K w0 (findA id b.accs).1 ca ∧ Below w.heap.size w w' := by
  obtain ⟨A1, c1, A2, c2, A3, c3, hl, -, g2, -, -, ha, -, -, -, -⟩ := bk_get hk
  have HA := Aside0.mk ha
  have hlm := Kd.C_max ha
  have HB0 := Aside0.mk hb0
  clear hk ha hl hb0
  have WB := (((Below.refl w.heap.size w).alloc (Nat.le_refl _) (.cells cs.toArray 63)).alloc (by simp) (.cells zAccs.toArray 101))
  have WB0 := Aside0.mk WB
  clear WB
  go_enter Try.func54, Try.ntmps54
  go_wp2
  go_loop [6] (fun i => ∃ x : Nat, x ≤ b.accs.length ∧ i = .int .i64 x ∧ Aside0 (ixFrom id 0 b.accs = ixFrom id x (b.accs.drop x))) (fun i => b.accs.length - (intOf i).toNat)
  case atStart => exact ⟨0, by omega, rfl, ⟨rfl⟩⟩
  case round =>
    obtain ⟨x, k1, rfl, hx⟩ := hrel
    by_cases hlt : x < b.accs.length
    · obtain ⟨ad, ca, hA, hcl, hcK, hcR⟩ := row_at HA.out zAcc (x : Int) (by omega) (by omega)
      subst hA
      obtain ⟨-, a0, -, -, -⟩ := acc_get hcK
      have CR := Aside0.mk ((hcR.below HB0.out).below WB0.out)
      have CL := Aside0.mk hcl
      have CK := Aside0.mk hcK
      have f0 : (((w.alloc (.cells cs.toArray 63)).alloc (.cells zAccs.toArray 101))).cell? (ad.add (x * 7)) = some (.int .i64 (rdAcc b.accs x).id) := CR.out.at0 a0
      have step := rdAcc_drop (l := b.accs) (x := x) (by omega) (by omega)
      have STEP := Aside0.mk step
      clear step hcR hcl hcK a0
      cases hq : ((rdAcc b.accs x).id == id)
      · go_wp2
        go_round
        case rel => exact ⟨x + 1, by omega, by go_num, ⟨by
          rw [hx.out]
          have := STEP.out
          rw [Int.toNat_natCast] at this
          rw [this, ixFrom, if_neg (by simpa using hq)]
          simp⟩⟩
        case measure => simp [intOf]; omega
      · have e : findA id b.accs = (rdAcc b.accs x, true) := by
          have h1 : ixFrom id 0 b.accs = x := by
            rw [hx.out]
            have := STEP.out
            rw [Int.toNat_natCast] at this
            rw [this, ixFrom, if_pos (by simpa using hq)]
          unfold findA
          rw [h1, if_neg (by omega)]
        have E := Aside0.mk e
        clear e
        go_wp2_with (first
          | (refine ld_rng rfl 101 _ rfl (p := ad.add (x * 7)) rfl (cs := ca) CR.out Try.underlying101 rfl ?_ ?_; (rw [CL.out]; kernel_rfl))
          | (refine st_newAt rfl 101 _ _ rfl rfl (g := w.heap.size + 1) (cs := zAccs) (vs := ca) rfl rfl (by simp) CL.out ?_ (kAcc.K_one CK.out) ?_; (rw [CL.out]; kernel_rfl)))
        exact bodyPost_ret (ret_cell_tmp Try.results54 _ _ rfl rfl (Blk.newAt (w.alloc (.cells cs.toArray 63)) (g := w.heap.size + 1) (by simp) ca 101) Try.underlying101 rfl (by rw [CL.out]; kernel_rfl)) rfl (by
          rw [E.out]
          have hB := (((Below.refl w.heap.size w).alloc (Nat.le_refl _) (.cells cs.toArray 63)).alloc (by simp) (.cells ca.toArray 101))
          exact ⟨_, rfl, CK.out, hB⟩)
    · have e : findA id b.accs = (noAcc, false) := by
        have h1 : ixFrom id 0 b.accs = -1 := by
          rw [hx.out, List.drop_eq_nil_of_le (by omega)]
          rfl
        unfold findA
        rw [h1]
        rfl
      have E := Aside0.mk e
      clear e
      go_wp2_with (refine st_newAt rfl 101 _ _ rfl rfl (g := w.heap.size + 1) (cs := zAccs) (vs := zAccs) rfl rfl (by simp) rfl ?_ (kAcc.K_one (noAcc_K w)) ?_; kernel_rfl)
      exact bodyPost_ret (ret_cell_tmp Try.results54 _ _ rfl rfl (Blk.newAt (w.alloc (.cells cs.toArray 63)) (g := w.heap.size + 1) (by simp) zAccs 101) Try.underlying101 rfl (by kernel_rfl)) rfl (by rw [E.out]; exact ⟨_, rfl, noAcc_K _, WB0.out⟩)
set_option maxHeartbeats 2000000 in
theorem rcat_calls (A : Option Addr) (c : Nat) (l : List Prd) (name : ByteArray) (day : Int) (w0 w : World) (hb0 : Below w0.heap.size w0 w) (hr : Kd.C kPrd w0 A l.length l) :
    Calls Try.prog 81 #[.slice A l.length c, .string name, .int .i64 day] w fun e w' => ∃ cp, e = .returned (.tuple #[.agg cp.toArray, .bool (atP l name day).2]) ∧ kPrd.K w0 (atP l name day).1 cp ∧ Below w.heap.size w w' := by
  have hl := Kd.C_max hr
  have HR := Aside0.mk hr
  have HB0 := Aside0.mk hb0
  clear hr hb0
  go_enter Try.func81, Try.ntmps81
  go_wp2
  go_loopw [8, 9] (fun t i wr => ∃ x : Nat, x ≤ l.length ∧ i = .int .i64 x ∧ t = .int .i64 (bestTo name day l x) ∧ Aside0 (Below (w.heap.size + 1) (w.alloc (.cells zPrds.toArray 98)) wr)) (fun _ i _ => l.length - (intOf i).toNat)
  case atStart => exact ⟨0, by omega, rfl, rfl, ⟨Below.refl _ _⟩⟩
  case round =>
    obtain ⟨x, k1, rfl, rfl, hb⟩ := hrel
    have hbt := bestTo_lt name day l x
    by_cases hlt : x < l.length
    · obtain ⟨ad, cp, hA, hcl, hcK, hcR⟩ := row_at HR.out zPrd x (by omega) (by omega)
      subst hA
      obtain ⟨-, p0, p3⟩ := prd_get hcK
      have hb2 := ((Below.refl w.heap.size w).alloc (Nat.le_refl _) (.cells zPrds.toArray 98)).trans (hb.out.mono (by omega))
      have HB := hb
      clear hb
      have f0 : wr.cell? (ad.add (x * 19)) = some (.string (rdPrd l x).name) := ((hcR.below HB0.out).below hb2).at0 p0
      have f3 : wr.cell? ⟨(ad.add (x * 19)).block, (ad.add (x * 19)).off + 3, none⟩ = some (.int .i64 (rdPrd l x).since) := ((hcR.below HB0.out).below hb2).at_ 3 (by omega) p3
      clear hcl hcK hcR p0 p3 hb2
      generalize hbb : bestTo name day l x = t at *
      generalize hpx : rdPrd l (x : Int) = px at *
      have HBB := Aside0.mk hbb
      have HPX := Aside0.mk hpx
      clear hbb hpx
      have goal1 : ∀ (bv : Int), (betB name day l t x = true → bv = x) → (betB name day l t x = false → bv = t) → bestTo name day l (x + 1) = bv := by
        intro bv h1 h2
        show (if betB name day l (bestTo name day l x) x = true then (x : Int) else bestTo name day l x) = bv
        rw [HBB.out]
        cases hq : betB name day l t x
        · rw [if_neg (by simp), h2 hq]
        · rw [if_pos rfl, h1 hq]
      have GO := Aside0.mk goal1
      clear goal1
      have hbet : betB name day l t x = ((px.name.toList == name.toList) && (decide (px.since ≤ day) && (decide (t < 0) || decide ((rdPrd l t).since < px.since)))) := by unfold betB; rw [HPX.out]
      have BET := Aside0.mk hbet
      clear hbet
      have noW : ∀ n, Below (w.heap.size + 1) (w.alloc (.cells zPrds.toArray 98)) (wr.drewN n) := fun n => pw_below_drewN HB.out n
      have NO := Aside0.mk noW
      clear noW
      go_upto_region 5 with (fail)
      cases c1 : px.name.toList == name.toList
      · have ev := GO.out t (by rw [BET.out, c1]; simp) (fun _ => rfl)
        have EV := Aside0.mk ev
        clear ev
        go_quiet (fail)
        go_wp2
        go_roundw
        case rel => exact ⟨x + 1, by omega, by go_num, by rw [EV.out], ⟨NO.out _⟩⟩
        case measure => simp [intOf]; omega
      · by_cases c2 : px.since ≤ day
        · by_cases c3 : t < 0
          · have ev := GO.out x (fun _ => rfl) (by rw [BET.out, c1]; simp [c2, c3])
            have EV := Aside0.mk ev
            clear ev
            go_quiet (fail)
            go_wp2
            go_roundw
            case rel => exact ⟨x + 1, by omega, by go_num, by rw [EV.out], ⟨NO.out _⟩⟩
            case measure => simp [intOf]; omega
          · obtain ⟨ad', ct, hA', tl, tK, tR⟩ := row_at HR.out zPrd t (by omega) (by omega)
            cases hA'
            obtain ⟨-, -, t3⟩ := prd_get tK
            have g3 := ((tR.below HB0.out).below (((Below.refl w.heap.size w).alloc (Nat.le_refl _) (.cells zPrds.toArray 98)).trans (HB.out.mono (by simp)))).at_ 3 (by omega) t3
            have h3 : wr.cell? ⟨(ad.add (t.toNat * 19)).block, (ad.add (t.toNat * 19)).off + 3, none⟩ = some (.int .i64 (rdPrd l t).since) := g3
            clear tl tK tR t3 g3
            have c3' : decide (t < 0) = false := by simpa using c3
            have t0 : 0 ≤ t := by omega
            have t1 : t < l.length := by omega
            generalize rdPrd l t = pt at *
            by_cases c4 : pt.since < px.since
            · have ev := GO.out x (fun _ => rfl) (by rw [BET.out, c1]; simp [c2, c4])
              have EV := Aside0.mk ev
              clear ev
              go_quiet (fail)
              go_wp2
              go_roundw
              case rel => exact ⟨x + 1, by omega, by go_num, by rw [EV.out], ⟨NO.out _⟩⟩
              case measure => simp [intOf]; omega
            · have ev := GO.out t (by rw [BET.out, c1]; simp [c2, c3, c4]) (fun _ => rfl)
              have EV := Aside0.mk ev
              clear ev
              have c4' : decide (pt.since < px.since) = false := by simpa using c4
              clear c4
              go_quiet (fail)
              go_wp2
              go_roundw
              case rel => exact ⟨x + 1, by omega, by go_num, by rw [EV.out], ⟨NO.out _⟩⟩
              case measure => simp [intOf]; omega
        · have c2' : decide (px.since ≤ day) = false := by simpa using c2
          have ev := GO.out t (by rw [BET.out, c1]; simp [c2]) (fun _ => rfl)
          have EV := Aside0.mk ev
          clear ev c2
          go_quiet (fail)
          go_wp2
          go_roundw
          case rel => exact ⟨x + 1, by omega, by go_num, by rw [EV.out], ⟨NO.out _⟩⟩
          case measure => simp [intOf]; omega
    · have B2 := (Blk.new w zPrds 98).belowN hb.out (by omega)
      have hxl : x = l.length := by omega
      have hb2 : Below w.heap.size w wr := ((Below.refl w.heap.size w).alloc (Nat.le_refl _) _).trans (hb.out.mono (by omega))
      have HB := Aside0.mk hb2
      clear hb2
      by_cases hn : bestTo name day l x < 0
      · have e : atP l name day = (noPrd, false) := by unfold atP; rw [← hxl, if_pos hn]
        have E := Aside0.mk e
        clear e hxl
        go_wp2_with (refine st_blk rfl 98 _ _ rfl rfl (g := w.heap.size) (vs := zPrds) rfl rfl B2 rfl ?_ (kPrd.K_one (noPrd_K w)) ?_; kernel_rfl; intro B3)
        exact bodyPost_ret (ret_cell_tmp Try.results81 _ _ rfl rfl B3 Try.underlying98 rfl (by kernel_rfl)) rfl (by rw [E.out]; exact ⟨_, rfl, noPrd_K _, Below.setCells _ (by omega) _ _ HB.out⟩)
      · have e : atP l name day = (rdPrd l (bestTo name day l x), true) := by unfold atP; rw [← hxl, if_neg hn]
        obtain ⟨ad, cp, hA, hcl, hcK, hcR⟩ := row_at HR.out zPrd (bestTo name day l x) (by omega) (by omega)
        subst hA
        have h0 : 0 ≤ bestTo name day l x := by omega
        have h1 : bestTo name day l x < l.length := by omega
        have R1 := Aside0.mk ((hcR.below HB0.out).below HB.out)
        have CL := Aside0.mk hcl
        have CK := Aside0.mk hcK
        have E := Aside0.mk e
        clear e hxl hcl hcK hcR
        go_wp2_with (first
          | (refine ld_rng rfl 98 _ rfl (p := ad.add ((bestTo name day l x).toNat * 19)) rfl (cs := cp) R1.out Try.underlying98 rfl ?_ ?_; (rw [CL.out]; kernel_rfl))
          | (refine st_blk rfl 98 _ _ rfl rfl (g := w.heap.size) (vs := cp) rfl rfl B2 CL.out ?_ (kPrd.K_one CK.out) ?_; (rw [CL.out]; kernel_rfl); intro B3))
        exact bodyPost_ret (ret_cell_tmp Try.results81 _ _ rfl rfl B3 Try.underlying98 rfl (by rw [CL.out]; kernel_rfl)) rfl (by
          rw [E.out]
          exact ⟨_, rfl, CK.out, Below.setCells _ (by omega) _ _ HB.out⟩)
end Go.Proofs.Ytlmabdiodopidaa.G
end
section
set_option linter.unusedVariables false
set_option linter.unusedSimpArgs false
namespace Go.Proofs.Ytlmabdiodopidaa.G
set_option maxRecDepth 100000
open Go.RowKit Go.Proofs.YtlmabdiodopidaaW.PrintWords Go.Proofs.YtlmabdiodopidaaW.PrintLast Go.Proofs.YtlmabdiodopidaaW.PrintMore Go.Proofs.Ytlmabdiodopidaa.P
set_option maxHeartbeats 200000 in
theorem ractive_calls (cs : List Value) (b : Bk) (id day : Int) (w0 w : World) (hb0 : Below w0.heap.size w0 w) (hk : kBk.K w0 b cs) :
    Calls Try.prog 38 #[.agg cs.toArray, .int .i64 id, .int .i64 day] w fun e w' => e = .returned (.bool (activeA b.accs id day)) ∧ Below w.heap.size w w' := by
  obtain ⟨A1, c1, A2, c2, A3, c3, hl, -, -, -, -, -, -, -, -, -⟩ := bk_get hk
  have HK := Aside0.mk hk
  have HL := Aside0.mk hl
  have HB0 := Aside0.mk hb0
  clear hk hl hb0
  go_enter Try.func38, Try.ntmps38
  go_wp2_with (first
    | (refine ld_rng rfl 63 _ rfl (p := ⟨w.heap.size, 0, none⟩) rfl (cs := cs) ?_ Try.underlying63 rfl ?_ ?_; (exact ((Blk.new _ _ _).rng)); (rw [HL.out]; kernel_rfl)))
  refine (rfind_calls cs b id w0 _ (bstep HB0.out ((Below.refl w.heap.size w).alloc (Nat.le_refl _) _)) HK.out).mono ?_
  rintro e w1 ⟨ca, rfl, hca, hb1⟩
  have CA := Aside0.mk hca
  obtain ⟨cl, a0, a1, a2, a5⟩ := acc_get hca
  have CL := Aside0.mk cl
  clear hca cl a0 a5
  go_upto_region 2 with (first
    | (refine st_new rfl 101 _ _ rfl rfl (cs := zAccs) (vs := ca) rfl rfl CL.out ?_ (kAcc.K_one CA.out) ?_; (rw [CL.out]; kernel_rfl)))
  generalize hi : (findA id b.accs).2 = is at *
  have HI := Aside0.mk hi
  clear hi
  generalize hx : (findA id b.accs).1 = x at *
  have HX := Aside0.mk hx
  clear hx
  have hb2 := (Below.refl w.heap.size w).alloc (Nat.le_refl _) (.cells cs.toArray 63)
  have hb3 := (bstep hb2 hb1).alloc (bstep hb2 hb1).size (.cells ca.toArray 101)
  have HB := Aside0.mk hb3
  clear hb1 hb2 hb3
  cases is
  · go_wp2
    go_ret
    exact ⟨retb (by unfold activeA; rw [HI.out]; rfl), HB.out⟩
  · by_cases h1 : x.opened ≤ day
    · by_cases h2 : x.closed = 0
      · have h2' : (x.closed == 0) = true := by simpa using h2
        clear h2
        go_wp2
        go_ret
        exact ⟨retb (by unfold activeA; rw [HI.out, HX.out]; simp [actv, h1, h2']), HB.out⟩
      · have h2' : (x.closed == 0) = false := by simpa using h2
        clear h2
        by_cases h3 : day < x.closed
        · go_wp2
          go_ret
          exact ⟨retb (by unfold activeA; rw [HI.out, HX.out]; simp [actv, h1, h2', h3]), HB.out⟩
        · go_wp2
          go_ret
          exact ⟨retb (by unfold activeA; rw [HI.out, HX.out]; simp [actv, h1, h2', h3]), HB.out⟩
    · have h1' : decide (x.opened ≤ day) = false := by simpa using h1
      go_wp2
      go_ret
      exact ⟨retb (by unfold activeA; rw [HI.out, HX.out]; simp [actv, h1']), HB.out⟩
set_option maxHeartbeats 2000000 in
theorem rproduct_calls (cs : List Value) (b : Bk) (id day : Int) (w0 w : World) (hb0 : Below w0.heap.size w0 w) (hk : kBk.K w0 b cs) :
    Calls Try.prog 57 #[.agg cs.toArray, .int .i64 id, .int .i64 day] w fun e w' => ∃ cp, e = .returned (.tuple #[.agg cp.toArray, .bool (prodA b id day).2]) ∧ kPrd.K w0 (prodA b id day).1 cp ∧ Below w.heap.size w w' := by
  obtain ⟨A1, c1, A2, c2, A3, c3, hl, g1, -, -, hp, -, -, -, -, -⟩ := bk_get hk
  have HP := Aside0.mk hp
  have HK := Aside0.mk hk
  have HL := Aside0.mk hl
  have HB0 := Aside0.mk hb0
  clear hp hk hl hb0
  have WB := (((Below.refl w.heap.size w).alloc (Nat.le_refl _) (.cells cs.toArray 63)).alloc (by simp) (.cells zPrds.toArray 98))
  have WB0 := Aside0.mk WB
  clear WB
  go_enter Try.func57, Try.ntmps57
  go_upto_region 2 with (first
    | (refine ld_rng rfl 63 _ rfl (p := ⟨w.heap.size, 0, none⟩) rfl (cs := cs) ?_ Try.underlying63 rfl ?_ ?_; (exact (((Blk.new _ _ _).alloc _).rng)); (rw [HL.out]; kernel_rfl))
    | (go_at_call 54; refine (rfind_calls cs b id w0 _ ?_ HK.out).mono ?_; (exact bstep HB0.out WB0.out); rintro e w1 ⟨ca, rfl, hca, hb1⟩; have CA := Aside0.mk hca; obtain ⟨cl, a0, a1, a2, a5⟩ := acc_get hca; have CL := Aside0.mk cl; clear hca cl a0 a1 a2)
    | (refine st_new rfl 101 _ _ rfl rfl (cs := zAccs) (vs := ca) rfl rfl CL.out ?_ (kAcc.K_one CA.out) ?_; (rw [CL.out]; kernel_rfl)))
  have hbw := bstep WB0.out hb1
  have hb2 := hbw.alloc hbw.size (.cells ca.toArray 101)
  have B1 := (((Blk.new w cs 63).alloc (.cells zPrds.toArray 98)).below hb1).alloc (.cells ca.toArray 101)
  have R1 := ((Blk.newAt (w.alloc (.cells cs.toArray 63)) (g := w.heap.size + 1) (by simp) zPrds 98).below hb1).alloc (.cells ca.toArray 101)
  have f17 := (B1.cell 17).trans g1
  have f5 := ((Blk.new w1 ca 101).cell 5).trans a5
  clear hbw hb1 g1 a5 B1
  have HB2 := Aside0.mk hb2
  clear hb2
  generalize wr : w1.alloc (.cells ca.toArray 101) = W at *
  generalize hg : w1.heap.size = g at *
  clear wr hg
  have P1 : prodA b id day = (if (findA id b.accs).2 = true then atP b.prods (findA id b.accs).1.prod day else (noPrd, false)) := rfl
  generalize hi : (findA id b.accs).2 = is at *
  generalize hx : (findA id b.accs).1 = x at *
  have HI := Aside0.mk P1
  clear P1 hi hx
  cases is
  · have e : prodA b id day = (noPrd, false) := HI.out
    have E := Aside0.mk e
    clear e
    go_wp2_with (refine st_blk rfl 98 _ _ rfl rfl (g := w.heap.size + 1) (vs := zPrds) rfl rfl R1 rfl ?_ (kPrd.K_one (noPrd_K w)) ?_; kernel_rfl; intro B3)
    exact bodyPost_ret (ret_cell_tmp Try.results57 _ _ rfl rfl B3 Try.underlying98 rfl (by kernel_rfl)) rfl (by rw [E.out]; exact ⟨_, rfl, noPrd_K _, Below.setCells _ (by omega) _ _ HB2.out⟩)
  · have e : prodA b id day = atP b.prods x.prod day := HI.out
    have E := Aside0.mk e
    clear e
    go_wp2_with (first
      | (go_at_call 81; refine (rcat_calls A1 c1 b.prods x.prod day w0 _ ?_ HP.out).mono ?_; (exact bstep HB0.out HB2.out); rintro e w2 ⟨cp, rfl, hcp, hb3⟩; have CP := Aside0.mk hcp; have R2 := R1.below hb3; have PL := Aside0.mk (prd_get hcp).1; have HB3 := Aside0.mk (bstep HB2.out hb3); clear hcp hb3)
      | (refine st_blk rfl 98 _ _ rfl rfl (g := w.heap.size + 1) (vs := cp) rfl rfl R2 PL.out ?_ (kPrd.K_one CP.out) ?_; (rw [PL.out]; kernel_rfl); intro B3))
    exact bodyPost_ret (ret_cell_tmp Try.results57 _ _ rfl rfl B3 Try.underlying98 rfl (by rw [PL.out]; kernel_rfl)) rfl (by
      rw [E.out]
      exact ⟨_, rfl, CP.out, Below.setCells _ (by omega) _ _ HB3.out⟩)
end Go.Proofs.Ytlmabdiodopidaa.G
end
section
set_option linter.unusedVariables false
set_option linter.unusedSimpArgs false
namespace Go.Proofs.Ytlmabdiodopidaa.G
set_option maxRecDepth 100000
open Go.RowKit Go.Proofs.YtlmabdiodopidaaW.PrintWords Go.Proofs.YtlmabdiodopidaaW.PrintLast Go.Proofs.YtlmabdiodopidaaW.PrintMore Go.Proofs.Ytlmabdiodopidaa.P
/-- one leg more -/
def mvS (acct n : Int) (x : Leg) : Int := if (x.acct == acct) = true then wrap64 (n - x.amt) else n
def mvR (acct : Int) (l : List Leg) : Int := l.foldl (mvS acct) 0
theorem mvR_take (acct : Int) (l : List Leg) (k : Nat) (hk : k < l.length) : mvR acct (l.take (k + 1)) = mvS acct (mvR acct (l.take k)) l[k] := by
  unfold mvR
  rw [List.take_succ_eq_append_getElem hk, List.foldl_append]
  rfl
/-- one entry more -/
def atRS (acct booked value n : Int) (e : Ent) : Int := if e.booked ≤ booked ∧ e.value ≤ value then wrap64 (n + mvR acct e.legs) else n
def atR (acct booked value : Int) (l : List Ent) : Int := l.foldl (atRS acct booked value) 0
theorem atR_take (acct booked value : Int) (l : List Ent) (k : Nat) (hk : k < l.length) : atR acct booked value (l.take (k + 1)) = atRS acct booked value (atR acct booked value (l.take k)) l[k] := by
  unfold atR
  rw [List.take_succ_eq_append_getElem hk, List.foldl_append]
  rfl
theorem getD_nat {α : Type} (l : List α) (z : α) (x : Nat) (h : x < l.length) : l.getD (x : Int).toNat z = l[x] := by
  rw [Int.toNat_natCast, List.getD_eq_getElem?_getD, List.getElem?_eq_getElem h, Option.getD_some]
set_option maxHeartbeats 1000000 in
theorem moved_calls (ce : List Value) (en : Ent) (acct : Int) (w0 w : World) (hb0 : Below w0.heap.size w0 w) (hk : kEnt.K w0 en ce) :
    Calls Try.prog 80 #[.agg ce.toArray, .int .i64 acct] w fun e w' => e = .returned (.int .i64 (mvR acct en.legs)) ∧ Below w.heap.size w w' := by
  obtain ⟨A, c, -, -, -, e8, hlc, hC⟩ := ent_get hk
  have hlm := Kd.C_max hC
  have HC := Aside0.mk hC
  have HW := Aside0.mk ((Below.refl w.heap.size w).alloc (Nat.le_refl _) (.cells ce.toArray 82))
  have HB := Aside0.mk (bstep hb0 HW.out)
  clear hk hC hb0
  go_enter Try.func80, Try.ntmps80
  go_wp2
  go_loop [5, 6] (fun t i => ∃ x : Nat, x ≤ en.legs.length ∧ i = .int .i64 x ∧ t = .int .i64 (mvR acct (en.legs.take x))) (fun _ i => en.legs.length - (intOf i).toNat)
  case atStart => exact ⟨0, by omega, rfl, rfl⟩
  case round =>
    obtain ⟨x, k1, rfl, rfl⟩ := hrel
    by_cases hlt : x < en.legs.length
    · obtain ⟨ad, lc, hA, hll, hlK, hlR⟩ := row_at HC.out zLeg (x : Int) (by omega) (by omega)
      subst hA
      rw [getD_nat _ _ _ hlt] at hlK
      have hlo := kLeg_open hlK
      have l0 : lc[0]? = some (.int .i64 en.legs[x].acct) := by rw [hlo]; rfl
      have l1 : lc[1]? = some (.int .i64 en.legs[x].amt) := by rw [hlo]; rfl
      have r0 : (w.alloc (.cells ce.toArray 82)).cell? (ad.add (x * 3)) = some (.int .i64 en.legs[x].acct) := (hlR.below HB.out).at0 l0
      have r1 : (w.alloc (.cells ce.toArray 82)).cell? ⟨(ad.add (x * 3)).block, (ad.add (x * 3)).off + 1, none⟩ = some (.int .i64 en.legs[x].amt) := (hlR.below HB.out).at_ 1 (by omega) l1
      have st := mvR_take acct en.legs x hlt
      clear hll hlK hlR hlo l0 l1
      generalize en.legs[x] = lg at *
      generalize mvR acct (en.legs.take x) = t at *
      cases hq : (lg.acct == acct)
      · rw [show mvS acct t lg = t by unfold mvS; exact if_neg (by rw [hq]; simp)] at st
        have ST := Aside0.mk st
        clear st
        go_wp2
        go_round
        case rel => exact ⟨x + 1, by omega, by go_num, by rw [ST.out]⟩
        case measure => simp [intOf]; omega
      · rw [show mvS acct t lg = wrap64 (t - lg.amt) by unfold mvS; exact if_pos hq] at st
        have ST := Aside0.mk st
        clear st
        go_wp2
        go_round
        case rel => exact ⟨x + 1, by omega, by go_num, by rw [ST.out]⟩
        case measure => simp [intOf]; omega
    · go_wp2
      go_ret
      exact ⟨reti (by rw [List.take_of_length_le (by omega)]), HW.out⟩
set_option maxHeartbeats 1000000 in
theorem rat_calls (A : Option Addr) (c : Nat) (l : List Ent) (acct booked value : Int) (w0 w : World) (hb0 : Below w0.heap.size w0 w) (hC : Kd.C kEnt w0 A l.length l) :
    Calls Try.prog 56 #[.slice A l.length c, .int .i64 acct, .int .i64 booked, .int .i64 value] w fun e w' => e = .returned (.int .i64 (atR acct booked value l)) ∧ Below w.heap.size w w' := by
  have hlm := Kd.C_max hC
  have HC := Aside0.mk hC
  have HB0 := Aside0.mk hb0
  clear hC hb0
  go_enter Try.func56, Try.ntmps56
  go_wp2
  go_loopw [9, 10] (fun t i wr => ∃ x : Nat, x ≤ l.length ∧ i = .int .i64 x ∧ t = .int .i64 (atR acct booked value (l.take x)) ∧ Aside0 (Below w.heap.size w wr)) (fun _ i _ => l.length - (intOf i).toNat)
  case atStart => exact ⟨0, by omega, rfl, rfl, ⟨Below.refl _ _⟩⟩
  case round =>
    obtain ⟨x, k1, rfl, rfl, hB⟩ := hrel
    by_cases hlt : x < l.length
    · obtain ⟨ad, ce, hA, hcl, hcK, hcR⟩ := row_at HC.out zEnt (x : Int) (by omega) (by omega)
      subst hA
      rw [getD_nat _ _ _ hlt] at hcK
      obtain ⟨-, -, -, e1, e2, -, -, -⟩ := ent_get hcK
      have HBW := Aside0.mk (bstep HB0.out hB.out)
      have CR := Aside0.mk (hcR.below HBW.out)
      have r1 : wr.cell? ⟨(ad.add (x * 10)).block, (ad.add (x * 10)).off + 1, none⟩ = some (.int .i64 l[x].booked) := CR.out.at_ 1 (by omega) e1
      have r2 : wr.cell? ⟨(ad.add (x * 10)).block, (ad.add (x * 10)).off + 2, none⟩ = some (.int .i64 l[x].value) := CR.out.at_ 2 (by omega) e2
      have st := atR_take acct booked value l x hlt
      have CL := Aside0.mk hcl
      have CK := Aside0.mk hcK
      clear hcl hcK hcR e1 e2
      generalize l[x] = en at *
      generalize atR acct booked value (l.take x) = t at *
      by_cases q1 : en.booked ≤ booked
      · by_cases q2 : en.value ≤ value
        · rw [show atRS acct booked value t en = wrap64 (t + mvR acct en.legs) by unfold atRS; exact if_pos ⟨q1, q2⟩] at st
          have ST := Aside0.mk st
          clear st
          go_wp2_with (first
            | (refine ld_rng rfl 82 _ rfl (p := ad.add (x * 10)) rfl (cs := ce) CR.out Try.underlying82 rfl ?_ ?_; (rw [CL.out]; kernel_rfl))
            | (go_at_call 80; refine (moved_calls ce en acct w0 _ HBW.out CK.out).mono ?_; rintro e w1 ⟨rfl, hb1⟩; have HB1 := Aside0.mk (bstep hB.out hb1); clear hb1))
          go_roundw
          case rel => exact ⟨x + 1, by omega, by go_num, by rw [ST.out], HB1⟩
          case measure => simp [intOf]; omega
        · rw [show atRS acct booked value t en = t by unfold atRS; exact if_neg (fun h => q2 h.2)] at st
          have ST := Aside0.mk st
          clear st
          go_wp2
          go_roundw
          case rel => exact ⟨x + 1, by omega, by go_num, by rw [ST.out], hB⟩
          case measure => simp [intOf]; omega
      · rw [show atRS acct booked value t en = t by unfold atRS; exact if_neg (fun h => q1 h.1)] at st
        have ST := Aside0.mk st
        clear st
        go_wp2
        go_roundw
        case rel => exact ⟨x + 1, by omega, by go_num, by rw [ST.out], hB⟩
        case measure => simp [intOf]; omega
    · go_wp2
      go_ret
      exact ⟨reti (by rw [List.take_of_length_le (by omega)]), hB.out⟩
end Go.Proofs.Ytlmabdiodopidaa.G
end
section
set_option linter.unusedVariables false
set_option linter.unusedSimpArgs false
namespace Go.Proofs.Ytlmabdiodopidaa.P
open Go.Proofs.Ytlmabdiodopidaa.G
attribute [local go_sem high] un_not64 un_noti run_add64
open Go.RowKit Go.Proofs.YtlmabdiodopidaaW.PrintWords Go.Proofs.YtlmabdiodopidaaW.PrintLast Go.Proofs.YtlmabdiodopidaaW.PrintMore
attribute [local go_sem] max2_int min2_int max_two min_two max_three min_three max_four min_four   -- for this text's walks alone
set_option linter.unusedVariables false
set_option linter.unusedSimpArgs false

/-! ### corebankref01_Scale: function 46 -/
def corebankref01_Scale.f (k : Nat) (a0_0 : Int) (a0_1 : Int) (a1 : Int) : Option (Int × Int × Int) := (corebankref01_Split.f a0_0 a0_1).bind fun bt354 => ((corebankref01_size.f a1).bind fun t358 => ((corebankref01_times.f k bt354.2.1 bt354.2.2 t358).bind fun bt359 => ((corebankref01_Join.f (bt354.1 != (decide (a1 < 0))) bt359.1 bt359.2.1).bind fun bt363 => (if bt359.2.2 = true then (if bt363.2.2 = true then (some (bt363.1, bt363.2.1, 0)) else (some (0, 0, 6))) else (some (0, 0, 6))))))
theorem corebankref01_Scale.mono : ∀ a0 a1 a2 k, LeO (corebankref01_Scale.f k a0 a1 a2) (corebankref01_Scale.f (k + 1) a0 a1 a2) := by
  intro a0 a1 a2 k
  unfold corebankref01_Scale.f
  repeat' first
      | (with_reducible exact corebankref01_times.mono _ _ _ _)
      | (with_reducible exact LeO.refl _)
      | (with_reducible exact LeO.none _)
      | (with_reducible refine LeO.ite ?_ ?_)
      | (with_reducible refine LeO.bind ?_ (fun _ => ?_))
      | exact corebankref01_times.mono _ _ _ _
      | exact LeO.none _
      | refine LeO.ite ?_ ?_
      | refine LeO.bind ?_ (fun _ => ?_)
def corebankref01_Scale.T2 : Bool × List (List Nat × List Nat) := (true, [([], []), ([], []), ([1], [1]), ([0, 2, 2], [0, 2]), ([3], [3]), ([4], [4]), ([4], [4]), ([], []), ([7, 5, 3, 0, 1, 2, 3, 4, 5, 7], [5, 7]), ([6, 8, 0, 1, 2, 3, 4, 5, 6, 7, 8], [6])])
def corebankref01_Scale.B2 : List Nat := [0, 0, 2, 7, 15, 31, 31, 0, 191, 511]
theorem corebankref01_Scale.tab2 : rtab .any (opsOf Try.f46 2) = corebankref01_Scale.T2 := by kernel_rfl
theorem corebankref01_Scale.bits2 : waitsOk corebankref01_Scale.T2.2 corebankref01_Scale.B2 = true := by kernel_rfl
set_option maxHeartbeats 8000000 in
set_option maxRecDepth 100000 in
theorem corebankref01_Scale.calls (k : Nat) (a0_0 : Int) (a0_1 : Int) (a1 : Int) (r1 : Int) (r2 : Int) (r3 : Int) (w : World) (h : corebankref01_Scale.f k a0_0 a0_1 a1 = some (r1, r2, r3)) :
    Calls Try.prog 46 #[.agg #[.int .i64 a0_0, .int .u64 a0_1], .int .i64 a1] w fun e w' => e = .returned (.tuple #[.agg #[.int .i64 r1, .int .u64 r2], .int .i64 r3]) ∧ Below w.heap.size w w' := by
  have hu35 := Try.underlying35
  have hu89 := Try.underlying89
  have HB := Aside0.mk (Below.refl w.heap.size w)
  have H : ((corebankref01_Split.f a0_0 a0_1).bind fun bt354 => ((corebankref01_size.f a1).bind fun t358 => ((corebankref01_times.f k bt354.2.1 bt354.2.2 t358).bind fun bt359 => ((corebankref01_Join.f (bt354.1 != (decide (a1 < 0))) bt359.1 bt359.2.1).bind fun bt363 => (if bt359.2.2 = true then (if bt363.2.2 = true then (some (bt363.1, bt363.2.1, 0)) else (some (0, 0, 6))) else (some (0, 0, 6))))))) = some (r1, r2, r3) := h
  clear h
  replace H := Option.bind_eq_some_iff.mp H
  obtain ⟨⟨t354, t355, t356⟩, A30, H⟩ := H
  replace H : ((corebankref01_size.f a1).bind fun t358 => ((corebankref01_times.f k t355 t356 t358).bind fun bt359 => ((corebankref01_Join.f (t354 != (decide (a1 < 0))) bt359.1 bt359.2.1).bind fun bt363 => (if bt359.2.2 = true then (if bt363.2.2 = true then (some (bt363.1, bt363.2.1, 0)) else (some (0, 0, 6))) else (some (0, 0, 6)))))) = some (r1, r2, r3) := H
  have A3 := Aside0.mk A30
  clear A30
  replace H := Option.bind_eq_some_iff.mp H
  obtain ⟨t358, A40, H⟩ := H
  replace H : ((corebankref01_times.f k t355 t356 t358).bind fun bt359 => ((corebankref01_Join.f (t354 != (decide (a1 < 0))) bt359.1 bt359.2.1).bind fun bt363 => (if bt359.2.2 = true then (if bt363.2.2 = true then (some (bt363.1, bt363.2.1, 0)) else (some (0, 0, 6))) else (some (0, 0, 6))))) = some (r1, r2, r3) := H
  have A4 := Aside0.mk A40
  clear A40
  replace H := Option.bind_eq_some_iff.mp H
  obtain ⟨⟨t359, t360, t361⟩, A50, H⟩ := H
  replace H : ((corebankref01_Join.f (t354 != (decide (a1 < 0))) t359 t360).bind fun bt363 => (if t361 = true then (if bt363.2.2 = true then (some (bt363.1, bt363.2.1, 0)) else (some (0, 0, 6))) else (some (0, 0, 6)))) = some (r1, r2, r3) := H
  have A5 := Aside0.mk A50
  clear A50
  replace H := Option.bind_eq_some_iff.mp H
  obtain ⟨⟨t363, t364, t365⟩, A60, H⟩ := H
  replace H : (if t361 = true then (if t365 = true then (some (t363, t364, 0)) else (some (0, 0, 6))) else (some (0, 0, 6))) = some (r1, r2, r3) := H
  have A6 := Aside0.mk A60
  clear A60
  by_cases c7 : t361 = true
  · subst c7
    have H1 : (if t365 = true then (some (t363, t364, 0)) else (some (0, 0, 6))) = some (r1, r2, r3) := by rw [if_pos rfl] at H; exact H
    clear H
    have H := H1
    clear H1
    by_cases c8 : t365 = true
    · subst c8
      have H1 : (some (t363, t364, 0)) = some (r1, r2, r3) := by rw [if_pos rfl] at H; exact H
      clear H
      have H := H1
      clear H1
      simp only [Option.some.injEq, Prod.mk.injEq] at H
      obtain ⟨rfl, rfl, rfl⟩ := H
      go_enter Try.func46, Try.ntmps46
      try go_wp2_with (first | ((with_reducible refine gate_dst (N := 2) rfl ?_); refine box_event ?hg (N := 2) ?hd (cs := #[.int .i64 a0_0, .int .u64 a0_1]) (t := 35) ?hr ?_; (case hd => rfl); (case hg => rfl); (case hr => first | (go_simp; done) | (go_simp; rfl)); intro gb352 hg w9 hbox hb; have BK352 := Aside0.mk (hbox); have GW352 := ge HB hg; have GE352 := ge HB hg; replace HB := bs HB hb; clear hb hbox hg) | ((with_reducible refine gate_dst (N := 4) rfl ?_); refine box_event ?hg (N := 4) ?hd (cs := #[.int .i64 0, .int .u64 0]) (t := 35) ?hr ?_; (case hd => rfl); (case hg => rfl); (case hr => first | (go_simp; done) | (go_simp; rfl)); intro gb353 hg w10 hbox hb; have BK353 := Aside0.mk (hbox); have GW353 := ge HB hg; have GE353 := ge HB hg; have NB352_353 := nl BK352 hg; have NB353_352 := ng NB352_353; replace BK352 := bb BK352 hb; replace HB := bs HB hb; clear hb hbox hg; have hnb11 := NB352_353.out; have hnc11 := NB353_352.out; obtain ⟨hcz12_0, hcz12_1, hfz12_0, hfz12_1⟩ := cz2 BK352) | ((with_reducible refine gate_callee (f := 48) rfl ?_); refine goesL_ (some 14) rfl rfl Try.func48 (by kernel_rfl) rfl #[.agg #[.int .i64 a0_0, .int .u64 a0_1]] rfl zm ?_; (with_reducible refine (corebankref01_Split.calls a0_0 a0_1 t354 t355 t356 _ A3.out).mono ?_); rintro e w13 ⟨rfl, hb⟩; refine ⟨_, rfl, ?_⟩; replace BK352 := bb BK352 hb; replace BK353 := bb BK353 hb; replace HB := bs HB hb; (try clear hb); (try clear hb2); (try clear hk); (try clear hi)) | ((with_reducible refine gate_dst (N := 7) rfl ?_); refine box_event ?hg (N := 7) ?hd (cs := #[.int .u64 0, .int .u64 0]) (t := 89) ?hr ?_; (case hd => rfl); (case hg => rfl); (case hr => first | (go_simp; done) | (go_simp; rfl)); intro gb357 hg w14 hbox hb; have BK357 := Aside0.mk (hbox); have GW357 := ge HB hg; have GE357 := ge HB hg; have NB352_357 := nl BK352 hg; have NB357_352 := ng NB352_357; have NB353_357 := nl BK353 hg; have NB357_353 := ng NB353_357; replace BK352 := bb BK352 hb; replace BK353 := bb BK353 hb; replace HB := bs HB hb; clear hb hbox hg; have hnb15 := NB357_352.out; have hnc15 := NB352_357.out; have hnb16 := NB357_353.out; have hnc16 := NB353_357.out; obtain ⟨hcz17_0, hcz17_1, hfz17_0, hfz17_1⟩ := cz2 BK357))
      have n0_ : Aside0 (((w14.setCell ⟨gb357, 0, none⟩ (.int .u64 t355)).setCell ⟨gb357, 1, none⟩ (.int .u64 t356)).heap[gb352]? = some (.cells #[.int .i64 a0_0, .int .u64 a0_1] 35 (0, 0))) := ⟨bq BK352⟩
      have n1_ : Aside0 (((w14.setCell ⟨gb357, 0, none⟩ (.int .u64 t355)).setCell ⟨gb357, 1, none⟩ (.int .u64 t356)).heap[gb353]? = some (.cells #[.int .i64 0, .int .u64 0] 35 (0, 0))) := ⟨bq BK353⟩
      have n2_ : Aside0 (((w14.setCell ⟨gb357, 0, none⟩ (.int .u64 t355)).setCell ⟨gb357, 1, none⟩ (.int .u64 t356)).heap[gb357]? = some (.cells #[.int .u64 t355, .int .u64 t356] 89 (0, 0))) := ⟨bp BK357⟩
      have n3_ : Aside0 (Below w.heap.size w ((w14.setCell ⟨gb357, 0, none⟩ (.int .u64 t355)).setCell ⟨gb357, 1, none⟩ (.int .u64 t356))) := ⟨hq HB⟩
      (try clear BK352)
      (try clear BK353)
      (try clear BK357)
      (try clear HB)
      generalize ((w14.setCell ⟨gb357, 0, none⟩ (.int .u64 t355)).setCell ⟨gb357, 1, none⟩ (.int .u64 t356)) = w18 at n0_ n1_ n2_ n3_ ⊢
      have BK352 := n0_
      have BK353 := n1_
      have BK357 := n2_
      have HB := n3_
      clear n0_ n1_ n2_ n3_
      replace BK352 := bd1 BK352
      replace BK353 := bd1 BK353
      replace BK357 := bd1 BK357
      replace HB := hb1 HB
      refine start_ (n := 10) (S := fun w' => w'.cell? ⟨gb357, 0, none⟩ = some (.int .u64 t355) ∧ w'.cell? ⟨gb357, 1, none⟩ = some (.int .u64 t356)) (ds := []) #[false, false, false, false, false, false, false, false, false, false] (by kernel_rfl) rfl rfl ⟨(blk_cell BK357.out 0).trans rfl, (blk_cell BK357.out 1).trans rfl⟩ (fun hHeld => ?_); refine with_tabW corebankref01_Scale.tab2 corebankref01_Scale.bits2 (fun HT_ HW_ => ?_)
      generalize w18.drew = w19 at BK352 BK353 BK357 HB hHeld ⊢
      refine pz (i := 1) (N := some 19) #[false, true, false, false, false, false, false, false, false, false] rfl rfl (any_of HT_.out (by kernel_rfl)) (fun _ _ _ h => h) ?_
      refine tz2 (i := 0) (N := some 18) #[true, true, false, false, false, false, false, false, false, false] rfl rfl (take_ofW HT_.out HW_.out (by kernel_rfl)) (fun _ _ _ h => h) hHeld ?_
      refine join_ (σ := Nat) 2 #[true, true, true, true, true, true, true, true, false, false] (fun s_ => [(20, .int .u64 t358), (21, .tuple #[.agg #[.int .u64 t359, .int .u64 t360], .bool true]), (8, .pointer (some ⟨s_, 0, none⟩)), (17, .tuple #[.agg #[.int .u64 t359, .int .u64 t360], .bool true]), (22, .agg #[.int .u64 t359, .int .u64 t360]), (23, .bool true)]) (fun s_ w' => (w'.cell? ⟨gb357, 0, none⟩ = some (.int .u64 t355) ∧ w'.cell? ⟨gb357, 1, none⟩ = some (.int .u64 t356)) ∧ (w'.heap[gb352]? = some (.cells #[.int .i64 a0_0, .int .u64 a0_1] 35 (0, 0))) ∧ (w'.heap[gb353]? = some (.cells #[.int .i64 0, .int .u64 0] 35 (0, 0))) ∧ (w'.heap[gb357]? = some (.cells #[.int .u64 t355, .int .u64 t356] 89 (0, 0))) ∧ (w'.heap[s_]? = some (.cells #[.int .u64 0, .int .u64 0] 89 (0, 0))) ∧ (w.heap.size ≤ s_) ∧ (w.heap.size ≤ s_) ∧ (gb352 ≠ s_) ∧ (s_ ≠ gb352) ∧ (gb353 ≠ s_) ∧ (s_ ≠ gb353) ∧ (gb357 ≠ s_) ∧ (s_ ≠ gb357) ∧ (Below w.heap.size w w')) ?_ ?_
      rotate_left
      · intro hCont
        refine two_ (i := 2) (j := 7) (Ni := some 20) (Nj := some 8) #[true, true, true, false, false, false, false, false, false, false] #[true, true, false, false, false, false, false, true, false, false] rfl rfl rfl rfl (two_of HT_.out (by kernel_rfl)) (by decide) (by decide) (fun K hK => ?_) (fun K hK => ?_)
        · skip
          refine goes_ Try.func68 (by kernel_rfl) rfl #[.int .i64 a1] (by rfl) rfl rfl zm ?_
          with_reducible refine (corebankref01_size.calls a1 t358 _ A4.out).mono ?_
          rintro e w' ⟨rfl, ⟨nd, rfl⟩⟩
          refine ⟨_, rfl, ?_⟩
          refine hK.out _ _ ⟨(blk_cell BK357.out 0).trans rfl, (blk_cell BK357.out 1).trans rfl⟩ (fun hHeld => ?_)
          clear hK K
          refine norm_ (a' := ?_) ?_ ?_
          rotate_left
          · show Act.put _ (some 20) _ = _
            simp only [Act.put, List.setIfInBounds_toArray, List.set_cons_zero, List.set_cons_succ, i64_w, i32_w]
            rfl
          refine two_ (i := 3) (j := 7) (Ni := some 21) (Nj := some 8) #[true, true, true, true, false, false, false, false, false, false] #[true, true, true, false, false, false, false, true, false, false] rfl rfl rfl rfl (two_of HT_.out (by kernel_rfl)) (by decide) (by decide) (fun K hK => ?_) (fun K hK => ?_)
          · skip
            refine goes_ Try.func67 (by kernel_rfl) rfl #[.agg #[.int .u64 t355, .int .u64 t356], .int .u64 t358] (by rfl) rfl rfl zm ?_
            with_reducible refine (corebankref01_times.calls k t355 t356 t358 t359 t360 true _ A5.out).mono ?_
            rintro e w20 ⟨rfl, hb⟩
            refine ⟨_, rfl, ?_⟩
            replace BK352 := bb BK352 hb
            replace BK353 := bb BK353 hb
            replace BK357 := bb BK357 hb
            replace HB := bs HB hb
            (try clear hb)
            (try clear hb2)
            (try clear hk)
            (try clear hi)
            refine hK.out _ _ ⟨(blk_cell BK357.out 0).trans rfl, (blk_cell BK357.out 1).trans rfl⟩ (fun hHeld => ?_)
            clear hK K
            refine norm_ (a' := ?_) ?_ ?_
            rotate_left
            · show Act.put _ (some 21) _ = _
              simp only [Act.put, List.setIfInBounds_toArray, List.set_cons_zero, List.set_cons_succ, i64_w, i32_w]
              rfl
            refine pz (i := 4) (N := some 17) #[true, true, true, true, true, false, false, false, false, false] rfl rfl (any_of HT_.out (by kernel_rfl)) (fun _ _ _ h => h) ?_
            refine pz (i := 5) (N := some 22) #[true, true, true, true, true, true, false, false, false, false] rfl rfl (any_of HT_.out (by kernel_rfl)) (fun _ _ _ h => h) ?_
            refine pz (i := 6) (N := some 23) #[true, true, true, true, true, true, true, false, false, false] rfl rfl (any_of HT_.out (by kernel_rfl)) (fun _ _ _ h => h) ?_
            refine one_ (i := 7) (N := some 8) #[true, true, true, true, true, true, true, true, false, false] rfl rfl (one_of HT_.out (by kernel_rfl)) (by decide) (fun K hK => ?_)
            refine box_step ?hg (N := 8) ?hd (cs := #[.int .u64 0, .int .u64 0]) (t := 89) ?hr ?_; (case hd => rfl); (case hg => rfl); (case hr => first | (go_simp; done) | (go_simp; rfl))
            intro gb362 hg w21 hbox hb
            have BK362 := Aside0.mk (hbox)
            have GW362 := ge HB hg
            have GE362 := ge HB hg
            have NB352_362 := nl BK352 hg
            have NB362_352 := ng NB352_362
            have NB353_362 := nl BK353 hg
            have NB362_353 := ng NB353_362
            have NB357_362 := nl BK357 hg
            have NB362_357 := ng NB357_362
            replace BK352 := bb BK352 hb
            replace BK353 := bb BK353 hb
            replace BK357 := bb BK357 hb
            replace HB := bs HB hb
            clear hb hbox hg
            refine hK.out _ _ ⟨(blk_cell BK357.out 0).trans rfl, (blk_cell BK357.out 1).trans rfl⟩ (fun hHeld => ?_)
            clear hK K
            refine norm_ (a' := ?_) ?_ ?_
            rotate_left
            · show Act.put _ (some 8) _ = _
              simp only [Act.put, List.setIfInBounds_toArray, List.set_cons_zero, List.set_cons_succ, i64_w, i32_w]
              rfl
            exact norm_ (by simp only [putAll, Act.put, List.setIfInBounds_toArray, List.set_cons_zero, List.set_cons_succ]) (hCont (gb362) _ ⟨hHeld, (bq BK352), (bq BK353), (bq BK357), (bq BK362), GW362.out, GE362.out, NB352_362.out, NB362_352.out, NB353_362.out, NB362_353.out, NB357_362.out, NB362_357.out, (hq HB)⟩)
          · skip
            refine box_step ?hg (N := 8) ?hd (cs := #[.int .u64 0, .int .u64 0]) (t := 89) ?hr ?_; (case hd => rfl); (case hg => rfl); (case hr => first | (go_simp; done) | (go_simp; rfl))
            intro gb362 hg w20 hbox hb
            have BK362 := Aside0.mk (hbox)
            have GW362 := ge HB hg
            have GE362 := ge HB hg
            have NB352_362 := nl BK352 hg
            have NB362_352 := ng NB352_362
            have NB353_362 := nl BK353 hg
            have NB362_353 := ng NB353_362
            have NB357_362 := nl BK357 hg
            have NB362_357 := ng NB357_362
            replace BK352 := bb BK352 hb
            replace BK353 := bb BK353 hb
            replace BK357 := bb BK357 hb
            replace HB := bs HB hb
            clear hb hbox hg
            refine hK.out _ _ ⟨(blk_cell BK357.out 0).trans rfl, (blk_cell BK357.out 1).trans rfl⟩ (fun hHeld => ?_)
            clear hK K
            refine norm_ (a' := ?_) ?_ ?_
            rotate_left
            · show Act.put _ (some 8) _ = _
              simp only [Act.put, List.setIfInBounds_toArray, List.set_cons_zero, List.set_cons_succ, i64_w, i32_w]
              rfl
            refine one_ (i := 3) (N := some 21) #[true, true, true, true, false, false, false, true, false, false] rfl rfl (one_of HT_.out (by kernel_rfl)) (by decide) (fun K hK => ?_)
            refine goes_ Try.func67 (by kernel_rfl) rfl #[.agg #[.int .u64 t355, .int .u64 t356], .int .u64 t358] (by rfl) rfl rfl zm ?_
            with_reducible refine (corebankref01_times.calls k t355 t356 t358 t359 t360 true _ A5.out).mono ?_
            rintro e w21 ⟨rfl, hb⟩
            refine ⟨_, rfl, ?_⟩
            replace BK352 := bb BK352 hb
            replace BK353 := bb BK353 hb
            replace BK357 := bb BK357 hb
            replace BK362 := bb BK362 hb
            replace HB := bs HB hb
            (try clear hb)
            (try clear hb2)
            (try clear hk)
            (try clear hi)
            refine hK.out _ _ ⟨(blk_cell BK357.out 0).trans rfl, (blk_cell BK357.out 1).trans rfl⟩ (fun hHeld => ?_)
            clear hK K
            refine norm_ (a' := ?_) ?_ ?_
            rotate_left
            · show Act.put _ (some 21) _ = _
              simp only [Act.put, List.setIfInBounds_toArray, List.set_cons_zero, List.set_cons_succ, i64_w, i32_w]
              rfl
            refine pz (i := 4) (N := some 17) #[true, true, true, true, true, false, false, true, false, false] rfl rfl (any_of HT_.out (by kernel_rfl)) (fun _ _ _ h => h) ?_
            refine pz (i := 5) (N := some 22) #[true, true, true, true, true, true, false, true, false, false] rfl rfl (any_of HT_.out (by kernel_rfl)) (fun _ _ _ h => h) ?_
            refine pz (i := 6) (N := some 23) #[true, true, true, true, true, true, true, true, false, false] rfl rfl (any_of HT_.out (by kernel_rfl)) (fun _ _ _ h => h) ?_
            exact norm_ (by simp only [putAll, Act.put, List.setIfInBounds_toArray, List.set_cons_zero, List.set_cons_succ]) (hCont (gb362) _ ⟨hHeld, (bq BK352), (bq BK353), (bq BK357), (bq BK362), GW362.out, GE362.out, NB352_362.out, NB362_352.out, NB353_362.out, NB362_353.out, NB357_362.out, NB362_357.out, (hq HB)⟩)
        · skip
          refine box_step ?hg (N := 8) ?hd (cs := #[.int .u64 0, .int .u64 0]) (t := 89) ?hr ?_; (case hd => rfl); (case hg => rfl); (case hr => first | (go_simp; done) | (go_simp; rfl))
          intro gb362 hg w20 hbox hb
          have BK362 := Aside0.mk (hbox)
          have GW362 := ge HB hg
          have GE362 := ge HB hg
          have NB352_362 := nl BK352 hg
          have NB362_352 := ng NB352_362
          have NB353_362 := nl BK353 hg
          have NB362_353 := ng NB353_362
          have NB357_362 := nl BK357 hg
          have NB362_357 := ng NB357_362
          replace BK352 := bb BK352 hb
          replace BK353 := bb BK353 hb
          replace BK357 := bb BK357 hb
          replace HB := bs HB hb
          clear hb hbox hg
          refine hK.out _ _ ⟨(blk_cell BK357.out 0).trans rfl, (blk_cell BK357.out 1).trans rfl⟩ (fun hHeld => ?_)
          clear hK K
          refine norm_ (a' := ?_) ?_ ?_
          rotate_left
          · show Act.put _ (some 8) _ = _
            simp only [Act.put, List.setIfInBounds_toArray, List.set_cons_zero, List.set_cons_succ, i64_w, i32_w]
            rfl
          refine one_ (i := 2) (N := some 20) #[true, true, true, false, false, false, false, true, false, false] rfl rfl (one_of HT_.out (by kernel_rfl)) (by decide) (fun K hK => ?_)
          refine goes_ Try.func68 (by kernel_rfl) rfl #[.int .i64 a1] (by rfl) rfl rfl zm ?_
          with_reducible refine (corebankref01_size.calls a1 t358 _ A4.out).mono ?_
          rintro e w' ⟨rfl, ⟨nd, rfl⟩⟩
          refine ⟨_, rfl, ?_⟩
          refine hK.out _ _ ⟨(blk_cell BK357.out 0).trans rfl, (blk_cell BK357.out 1).trans rfl⟩ (fun hHeld => ?_)
          clear hK K
          refine norm_ (a' := ?_) ?_ ?_
          rotate_left
          · show Act.put _ (some 20) _ = _
            simp only [Act.put, List.setIfInBounds_toArray, List.set_cons_zero, List.set_cons_succ, i64_w, i32_w]
            rfl
          refine one_ (i := 3) (N := some 21) #[true, true, true, true, false, false, false, true, false, false] rfl rfl (one_of HT_.out (by kernel_rfl)) (by decide) (fun K hK => ?_)
          refine goes_ Try.func67 (by kernel_rfl) rfl #[.agg #[.int .u64 t355, .int .u64 t356], .int .u64 t358] (by rfl) rfl rfl zm ?_
          with_reducible refine (corebankref01_times.calls k t355 t356 t358 t359 t360 true _ A5.out).mono ?_
          rintro e w21 ⟨rfl, hb⟩
          refine ⟨_, rfl, ?_⟩
          replace BK352 := bb BK352 hb
          replace BK353 := bb BK353 hb
          replace BK357 := bb BK357 hb
          replace BK362 := bb BK362 hb
          replace HB := bs HB hb
          (try clear hb)
          (try clear hb2)
          (try clear hk)
          (try clear hi)
          refine hK.out _ _ ⟨(blk_cell BK357.out 0).trans rfl, (blk_cell BK357.out 1).trans rfl⟩ (fun hHeld => ?_)
          clear hK K
          refine norm_ (a' := ?_) ?_ ?_
          rotate_left
          · show Act.put _ (some 21) _ = _
            simp only [Act.put, List.setIfInBounds_toArray, List.set_cons_zero, List.set_cons_succ, i64_w, i32_w]
            rfl
          refine pz (i := 4) (N := some 17) #[true, true, true, true, true, false, false, true, false, false] rfl rfl (any_of HT_.out (by kernel_rfl)) (fun _ _ _ h => h) ?_
          refine pz (i := 5) (N := some 22) #[true, true, true, true, true, true, false, true, false, false] rfl rfl (any_of HT_.out (by kernel_rfl)) (fun _ _ _ h => h) ?_
          refine pz (i := 6) (N := some 23) #[true, true, true, true, true, true, true, true, false, false] rfl rfl (any_of HT_.out (by kernel_rfl)) (fun _ _ _ h => h) ?_
          exact norm_ (by simp only [putAll, Act.put, List.setIfInBounds_toArray, List.set_cons_zero, List.set_cons_succ]) (hCont (gb362) _ ⟨hHeld, (bq BK352), (bq BK353), (bq BK357), (bq BK362), GW362.out, GE362.out, NB352_362.out, NB362_352.out, NB353_362.out, NB362_353.out, NB357_362.out, NB362_357.out, (hq HB)⟩)
      rintro gb362 w22 ⟨hS_, h0_, h1_, h2_, h3_, h4_, h5_, h6_, h7_, h8_, h9_, h10_, h11_, h12_⟩
      have BK362 : Aside0 (w22.heap[gb362]? = some (.cells #[.int .u64 0, .int .u64 0] 89 (0, 0))) := ⟨h3_⟩
      have GW362 : Aside0 (w.heap.size ≤ gb362) := ⟨h4_⟩
      have GE362 : Aside0 (w.heap.size ≤ gb362) := ⟨h5_⟩
      have NB352_362 : Aside0 (gb352 ≠ gb362) := ⟨h6_⟩
      have NB362_352 : Aside0 (gb362 ≠ gb352) := ⟨h7_⟩
      have NB353_362 : Aside0 (gb353 ≠ gb362) := ⟨h8_⟩
      have NB362_353 : Aside0 (gb362 ≠ gb353) := ⟨h9_⟩
      have NB357_362 : Aside0 (gb357 ≠ gb362) := ⟨h10_⟩
      have NB362_357 : Aside0 (gb362 ≠ gb357) := ⟨h11_⟩
      replace BK352 : Aside0 (w22.heap[gb352]? = some (.cells #[.int .i64 a0_0, .int .u64 a0_1] 35 (0, 0))) := ⟨h0_⟩
      replace BK353 : Aside0 (w22.heap[gb353]? = some (.cells #[.int .i64 0, .int .u64 0] 35 (0, 0))) := ⟨h1_⟩
      replace BK357 : Aside0 (w22.heap[gb357]? = some (.cells #[.int .u64 t355, .int .u64 t356] 89 (0, 0))) := ⟨h2_⟩
      replace HB : Aside0 (Below w.heap.size w w22) := ⟨h12_⟩
      clear h0_ h1_ h2_ h3_ h4_ h5_ h6_ h7_ h8_ h9_ h10_ h11_ h12_
      have hHeld : w22.cell? ⟨gb357, 0, none⟩ = some (.int .u64 t355) ∧ w22.cell? ⟨gb357, 1, none⟩ = some (.int .u64 t356) := hS_
      refine norm_ (a' := ?_) ?_ ?_
      rotate_left
      · simp only [putAll, Act.put, List.setIfInBounds_toArray, List.set_cons_zero, List.set_cons_succ]
        rfl
      refine one_ (i := 8) (N := none) #[true, true, true, true, true, true, true, true, true, false] rfl rfl (one_of HT_.out (by kernel_rfl)) (by decide) (fun K hK => ?_)
      have hs23 : w22.cell? ⟨gb362, 0, none⟩ = some (.int .u64 0) := (blk_cell BK362.out 0).trans rfl
      have hfs23 := blk_frozen BK362.out 0
      have hns23_0 := NB352_362.out
      have hns23_1 := NB353_362.out
      have hns23_2 := NB357_362.out
      have hms23_0 := NB362_352.out
      have hms23_1 := NB362_353.out
      have hms23_2 := NB362_357.out
      have hs24 : w22.cell? ⟨gb362, 1, none⟩ = some (.int .u64 0) := (blk_cell BK362.out 1).trans rfl
      have hfs24 := blk_frozen BK362.out 1
      have hns24_0 := NB352_362.out
      have hns24_1 := NB353_362.out
      have hns24_2 := NB357_362.out
      have hms24_0 := NB362_352.out
      have hms24_1 := NB362_353.out
      have hms24_2 := NB362_357.out
      refine skip_ (w1 := ?_) (by rfl) rfl ?_ ?_
      rotate_left
      · go_simp
        rfl
      refine hK.out _ _ ⟨((cell_far (p := ⟨gb362, _, none⟩) NB357_362.out _).trans (((cell_far (p := ⟨gb362, _, none⟩) NB357_362.out _).trans (hHeld.1)))), ((cell_far (p := ⟨gb362, _, none⟩) NB357_362.out _).trans (((cell_far (p := ⟨gb362, _, none⟩) NB357_362.out _).trans (hHeld.2))))⟩ (fun hHeld => ?_)
      clear hK K
      refine pz (i := 9) (N := some 9) #[true, true, true, true, true, true, true, true, true, true] rfl rfl (any_of HT_.out (by kernel_rfl)) (fun _ _ _ h => h) ?_
      refine done_ (done_of HT_.out (by kernel_rfl)) ?_
      have hnb25 := NB362_352.out
      have hnc25 := NB352_362.out
      have hnb26 := NB362_353.out
      have hnc26 := NB353_362.out
      have hnb27 := NB362_357.out
      have hnc27 := NB357_362.out
      obtain ⟨hcz28_0, hcz28_1, hfz28_0, hfz28_1⟩ := cz2 BK362
      try go_wp2_with (first | ((with_reducible refine gate_callee (f := 69) rfl ?_); refine goesL_ (some 30) rfl rfl Try.func69 (by kernel_rfl) rfl #[.bool (t354 != (decide (a1 < 0))), .agg #[.int .u64 t359, .int .u64 t360]] rfl zm ?_; (with_reducible refine (corebankref01_Join.calls (t354 != (decide (a1 < 0))) t359 t360 t363 t364 true _ A6.out).mono ?_); rintro e w29 ⟨rfl, hb⟩; refine ⟨_, rfl, ?_⟩; replace BK352 := bb BK352 hb; replace BK353 := bb BK353 hb; replace BK357 := bb BK357 hb; replace BK362 := bpb BK362 hb #[.int .u64 t359, .int .u64 t360]; replace HB := bs HB hb; (try clear hb); (try clear hb2); (try clear hk); (try clear hi)) | ((with_reducible refine gate_dst (N := 10) rfl ?_); refine box_event ?hg (N := 10) ?hd (cs := #[.int .i64 0, .int .u64 0]) (t := 35) ?hr ?_; (case hd => rfl); (case hg => rfl); (case hr => first | (go_simp; done) | (go_simp; rfl)); intro gb366 hg w30 hbox hb; have BK366 := Aside0.mk (hbox); have GW366 := ge HB hg; have GE366 := ge HB hg; have NB352_366 := nl BK352 hg; have NB366_352 := ng NB352_366; have NB353_366 := nl BK353 hg; have NB366_353 := ng NB353_366; have NB357_366 := nl BK357 hg; have NB366_357 := ng NB357_366; have NB362_366 := nl BK362 hg; have NB366_362 := ng NB362_366; replace BK352 := bb BK352 hb; replace BK353 := bb BK353 hb; replace BK357 := bb BK357 hb; replace BK362 := bb BK362 hb; replace HB := bs HB hb; clear hb hbox hg; have hnb31 := NB366_352.out; have hnc31 := NB352_366.out; have hnb32 := NB366_353.out; have hnc32 := NB353_366.out; have hnb33 := NB366_357.out; have hnc33 := NB357_366.out; have hnb34 := NB366_362.out; have hnc34 := NB362_366.out; obtain ⟨hcz35_0, hcz35_1, hfz35_0, hfz35_1⟩ := cz2 BK366; obtain ⟨hcz36_0, hcz36_1, hfz36_0, hfz36_1⟩ := cz2 BK353))
      refine bodyPost_ret (results_ct rfl _ _ gb353 35 #[.int .i64 t363, .int .u64 t364] (0, 0) _ rfl (bp BK353) Try.underlying35 rfl (by kernel_rfl)) rfl ?_
      exact ⟨by first | rfl | (simp [errW_none, errW_some] <;> rfl) | (simp [*, errW_none, errW_some] <;> rfl), hq HB⟩
    · replace c8 := Bool.eq_false_iff.mpr c8
      subst c8
      have H1 : (some (0, 0, 6)) = some (r1, r2, r3) := by rw [if_neg (show ¬ (false = true) by decide)] at H; exact H
      clear H
      have H := H1
      clear H1
      simp only [Option.some.injEq, Prod.mk.injEq] at H
      obtain ⟨rfl, rfl, rfl⟩ := H
      go_enter Try.func46, Try.ntmps46
      try go_wp2_with (first | ((with_reducible refine gate_dst (N := 2) rfl ?_); refine box_event ?hg (N := 2) ?hd (cs := #[.int .i64 a0_0, .int .u64 a0_1]) (t := 35) ?hr ?_; (case hd => rfl); (case hg => rfl); (case hr => first | (go_simp; done) | (go_simp; rfl)); intro gb352 hg w37 hbox hb; have BK352 := Aside0.mk (hbox); have GW352 := ge HB hg; have GE352 := ge HB hg; replace HB := bs HB hb; clear hb hbox hg) | ((with_reducible refine gate_dst (N := 4) rfl ?_); refine box_event ?hg (N := 4) ?hd (cs := #[.int .i64 0, .int .u64 0]) (t := 35) ?hr ?_; (case hd => rfl); (case hg => rfl); (case hr => first | (go_simp; done) | (go_simp; rfl)); intro gb353 hg w38 hbox hb; have BK353 := Aside0.mk (hbox); have GW353 := ge HB hg; have GE353 := ge HB hg; have NB352_353 := nl BK352 hg; have NB353_352 := ng NB352_353; replace BK352 := bb BK352 hb; replace HB := bs HB hb; clear hb hbox hg; have hnb39 := NB352_353.out; have hnc39 := NB353_352.out; obtain ⟨hcz40_0, hcz40_1, hfz40_0, hfz40_1⟩ := cz2 BK352) | ((with_reducible refine gate_callee (f := 48) rfl ?_); refine goesL_ (some 14) rfl rfl Try.func48 (by kernel_rfl) rfl #[.agg #[.int .i64 a0_0, .int .u64 a0_1]] rfl zm ?_; (with_reducible refine (corebankref01_Split.calls a0_0 a0_1 t354 t355 t356 _ A3.out).mono ?_); rintro e w41 ⟨rfl, hb⟩; refine ⟨_, rfl, ?_⟩; replace BK352 := bb BK352 hb; replace BK353 := bb BK353 hb; replace HB := bs HB hb; (try clear hb); (try clear hb2); (try clear hk); (try clear hi)) | ((with_reducible refine gate_dst (N := 7) rfl ?_); refine box_event ?hg (N := 7) ?hd (cs := #[.int .u64 0, .int .u64 0]) (t := 89) ?hr ?_; (case hd => rfl); (case hg => rfl); (case hr => first | (go_simp; done) | (go_simp; rfl)); intro gb357 hg w42 hbox hb; have BK357 := Aside0.mk (hbox); have GW357 := ge HB hg; have GE357 := ge HB hg; have NB352_357 := nl BK352 hg; have NB357_352 := ng NB352_357; have NB353_357 := nl BK353 hg; have NB357_353 := ng NB353_357; replace BK352 := bb BK352 hb; replace BK353 := bb BK353 hb; replace HB := bs HB hb; clear hb hbox hg; have hnb43 := NB357_352.out; have hnc43 := NB352_357.out; have hnb44 := NB357_353.out; have hnc44 := NB353_357.out; obtain ⟨hcz45_0, hcz45_1, hfz45_0, hfz45_1⟩ := cz2 BK357))
      have n0_ : Aside0 (((w42.setCell ⟨gb357, 0, none⟩ (.int .u64 t355)).setCell ⟨gb357, 1, none⟩ (.int .u64 t356)).heap[gb352]? = some (.cells #[.int .i64 a0_0, .int .u64 a0_1] 35 (0, 0))) := ⟨bq BK352⟩
      have n1_ : Aside0 (((w42.setCell ⟨gb357, 0, none⟩ (.int .u64 t355)).setCell ⟨gb357, 1, none⟩ (.int .u64 t356)).heap[gb353]? = some (.cells #[.int .i64 0, .int .u64 0] 35 (0, 0))) := ⟨bq BK353⟩
      have n2_ : Aside0 (((w42.setCell ⟨gb357, 0, none⟩ (.int .u64 t355)).setCell ⟨gb357, 1, none⟩ (.int .u64 t356)).heap[gb357]? = some (.cells #[.int .u64 t355, .int .u64 t356] 89 (0, 0))) := ⟨bp BK357⟩
      have n3_ : Aside0 (Below w.heap.size w ((w42.setCell ⟨gb357, 0, none⟩ (.int .u64 t355)).setCell ⟨gb357, 1, none⟩ (.int .u64 t356))) := ⟨hq HB⟩
      (try clear BK352)
      (try clear BK353)
      (try clear BK357)
      (try clear HB)
      generalize ((w42.setCell ⟨gb357, 0, none⟩ (.int .u64 t355)).setCell ⟨gb357, 1, none⟩ (.int .u64 t356)) = w46 at n0_ n1_ n2_ n3_ ⊢
      have BK352 := n0_
      have BK353 := n1_
      have BK357 := n2_
      have HB := n3_
      clear n0_ n1_ n2_ n3_
      replace BK352 := bd1 BK352
      replace BK353 := bd1 BK353
      replace BK357 := bd1 BK357
      replace HB := hb1 HB
      refine start_ (n := 10) (S := fun w' => w'.cell? ⟨gb357, 0, none⟩ = some (.int .u64 t355) ∧ w'.cell? ⟨gb357, 1, none⟩ = some (.int .u64 t356)) (ds := []) #[false, false, false, false, false, false, false, false, false, false] (by kernel_rfl) rfl rfl ⟨(blk_cell BK357.out 0).trans rfl, (blk_cell BK357.out 1).trans rfl⟩ (fun hHeld => ?_); refine with_tabW corebankref01_Scale.tab2 corebankref01_Scale.bits2 (fun HT_ HW_ => ?_)
      generalize w46.drew = w47 at BK352 BK353 BK357 HB hHeld ⊢
      refine pz (i := 1) (N := some 19) #[false, true, false, false, false, false, false, false, false, false] rfl rfl (any_of HT_.out (by kernel_rfl)) (fun _ _ _ h => h) ?_
      refine tz2 (i := 0) (N := some 18) #[true, true, false, false, false, false, false, false, false, false] rfl rfl (take_ofW HT_.out HW_.out (by kernel_rfl)) (fun _ _ _ h => h) hHeld ?_
      refine join_ (σ := Nat) 2 #[true, true, true, true, true, true, true, true, false, false] (fun s_ => [(20, .int .u64 t358), (21, .tuple #[.agg #[.int .u64 t359, .int .u64 t360], .bool true]), (8, .pointer (some ⟨s_, 0, none⟩)), (17, .tuple #[.agg #[.int .u64 t359, .int .u64 t360], .bool true]), (22, .agg #[.int .u64 t359, .int .u64 t360]), (23, .bool true)]) (fun s_ w' => (w'.cell? ⟨gb357, 0, none⟩ = some (.int .u64 t355) ∧ w'.cell? ⟨gb357, 1, none⟩ = some (.int .u64 t356)) ∧ (w'.heap[gb352]? = some (.cells #[.int .i64 a0_0, .int .u64 a0_1] 35 (0, 0))) ∧ (w'.heap[gb353]? = some (.cells #[.int .i64 0, .int .u64 0] 35 (0, 0))) ∧ (w'.heap[gb357]? = some (.cells #[.int .u64 t355, .int .u64 t356] 89 (0, 0))) ∧ (w'.heap[s_]? = some (.cells #[.int .u64 0, .int .u64 0] 89 (0, 0))) ∧ (w.heap.size ≤ s_) ∧ (w.heap.size ≤ s_) ∧ (gb352 ≠ s_) ∧ (s_ ≠ gb352) ∧ (gb353 ≠ s_) ∧ (s_ ≠ gb353) ∧ (gb357 ≠ s_) ∧ (s_ ≠ gb357) ∧ (Below w.heap.size w w')) ?_ ?_
      rotate_left
      · intro hCont
        refine two_ (i := 2) (j := 7) (Ni := some 20) (Nj := some 8) #[true, true, true, false, false, false, false, false, false, false] #[true, true, false, false, false, false, false, true, false, false] rfl rfl rfl rfl (two_of HT_.out (by kernel_rfl)) (by decide) (by decide) (fun K hK => ?_) (fun K hK => ?_)
        · skip
          refine goes_ Try.func68 (by kernel_rfl) rfl #[.int .i64 a1] (by rfl) rfl rfl zm ?_
          with_reducible refine (corebankref01_size.calls a1 t358 _ A4.out).mono ?_
          rintro e w' ⟨rfl, ⟨nd, rfl⟩⟩
          refine ⟨_, rfl, ?_⟩
          refine hK.out _ _ ⟨(blk_cell BK357.out 0).trans rfl, (blk_cell BK357.out 1).trans rfl⟩ (fun hHeld => ?_)
          clear hK K
          refine norm_ (a' := ?_) ?_ ?_
          rotate_left
          · show Act.put _ (some 20) _ = _
            simp only [Act.put, List.setIfInBounds_toArray, List.set_cons_zero, List.set_cons_succ, i64_w, i32_w]
            rfl
          refine two_ (i := 3) (j := 7) (Ni := some 21) (Nj := some 8) #[true, true, true, true, false, false, false, false, false, false] #[true, true, true, false, false, false, false, true, false, false] rfl rfl rfl rfl (two_of HT_.out (by kernel_rfl)) (by decide) (by decide) (fun K hK => ?_) (fun K hK => ?_)
          · skip
            refine goes_ Try.func67 (by kernel_rfl) rfl #[.agg #[.int .u64 t355, .int .u64 t356], .int .u64 t358] (by rfl) rfl rfl zm ?_
            with_reducible refine (corebankref01_times.calls k t355 t356 t358 t359 t360 true _ A5.out).mono ?_
            rintro e w48 ⟨rfl, hb⟩
            refine ⟨_, rfl, ?_⟩
            replace BK352 := bb BK352 hb
            replace BK353 := bb BK353 hb
            replace BK357 := bb BK357 hb
            replace HB := bs HB hb
            (try clear hb)
            (try clear hb2)
            (try clear hk)
            (try clear hi)
            refine hK.out _ _ ⟨(blk_cell BK357.out 0).trans rfl, (blk_cell BK357.out 1).trans rfl⟩ (fun hHeld => ?_)
            clear hK K
            refine norm_ (a' := ?_) ?_ ?_
            rotate_left
            · show Act.put _ (some 21) _ = _
              simp only [Act.put, List.setIfInBounds_toArray, List.set_cons_zero, List.set_cons_succ, i64_w, i32_w]
              rfl
            refine pz (i := 4) (N := some 17) #[true, true, true, true, true, false, false, false, false, false] rfl rfl (any_of HT_.out (by kernel_rfl)) (fun _ _ _ h => h) ?_
            refine pz (i := 5) (N := some 22) #[true, true, true, true, true, true, false, false, false, false] rfl rfl (any_of HT_.out (by kernel_rfl)) (fun _ _ _ h => h) ?_
            refine pz (i := 6) (N := some 23) #[true, true, true, true, true, true, true, false, false, false] rfl rfl (any_of HT_.out (by kernel_rfl)) (fun _ _ _ h => h) ?_
            refine one_ (i := 7) (N := some 8) #[true, true, true, true, true, true, true, true, false, false] rfl rfl (one_of HT_.out (by kernel_rfl)) (by decide) (fun K hK => ?_)
            refine box_step ?hg (N := 8) ?hd (cs := #[.int .u64 0, .int .u64 0]) (t := 89) ?hr ?_; (case hd => rfl); (case hg => rfl); (case hr => first | (go_simp; done) | (go_simp; rfl))
            intro gb362 hg w49 hbox hb
            have BK362 := Aside0.mk (hbox)
            have GW362 := ge HB hg
            have GE362 := ge HB hg
            have NB352_362 := nl BK352 hg
            have NB362_352 := ng NB352_362
            have NB353_362 := nl BK353 hg
            have NB362_353 := ng NB353_362
            have NB357_362 := nl BK357 hg
            have NB362_357 := ng NB357_362
            replace BK352 := bb BK352 hb
            replace BK353 := bb BK353 hb
            replace BK357 := bb BK357 hb
            replace HB := bs HB hb
            clear hb hbox hg
            refine hK.out _ _ ⟨(blk_cell BK357.out 0).trans rfl, (blk_cell BK357.out 1).trans rfl⟩ (fun hHeld => ?_)
            clear hK K
            refine norm_ (a' := ?_) ?_ ?_
            rotate_left
            · show Act.put _ (some 8) _ = _
              simp only [Act.put, List.setIfInBounds_toArray, List.set_cons_zero, List.set_cons_succ, i64_w, i32_w]
              rfl
            exact norm_ (by simp only [putAll, Act.put, List.setIfInBounds_toArray, List.set_cons_zero, List.set_cons_succ]) (hCont (gb362) _ ⟨hHeld, (bq BK352), (bq BK353), (bq BK357), (bq BK362), GW362.out, GE362.out, NB352_362.out, NB362_352.out, NB353_362.out, NB362_353.out, NB357_362.out, NB362_357.out, (hq HB)⟩)
          · skip
            refine box_step ?hg (N := 8) ?hd (cs := #[.int .u64 0, .int .u64 0]) (t := 89) ?hr ?_; (case hd => rfl); (case hg => rfl); (case hr => first | (go_simp; done) | (go_simp; rfl))
            intro gb362 hg w48 hbox hb
            have BK362 := Aside0.mk (hbox)
            have GW362 := ge HB hg
            have GE362 := ge HB hg
            have NB352_362 := nl BK352 hg
            have NB362_352 := ng NB352_362
            have NB353_362 := nl BK353 hg
            have NB362_353 := ng NB353_362
            have NB357_362 := nl BK357 hg
            have NB362_357 := ng NB357_362
            replace BK352 := bb BK352 hb
            replace BK353 := bb BK353 hb
            replace BK357 := bb BK357 hb
            replace HB := bs HB hb
            clear hb hbox hg
            refine hK.out _ _ ⟨(blk_cell BK357.out 0).trans rfl, (blk_cell BK357.out 1).trans rfl⟩ (fun hHeld => ?_)
            clear hK K
            refine norm_ (a' := ?_) ?_ ?_
            rotate_left
            · show Act.put _ (some 8) _ = _
              simp only [Act.put, List.setIfInBounds_toArray, List.set_cons_zero, List.set_cons_succ, i64_w, i32_w]
              rfl
            refine one_ (i := 3) (N := some 21) #[true, true, true, true, false, false, false, true, false, false] rfl rfl (one_of HT_.out (by kernel_rfl)) (by decide) (fun K hK => ?_)
            refine goes_ Try.func67 (by kernel_rfl) rfl #[.agg #[.int .u64 t355, .int .u64 t356], .int .u64 t358] (by rfl) rfl rfl zm ?_
            with_reducible refine (corebankref01_times.calls k t355 t356 t358 t359 t360 true _ A5.out).mono ?_
            rintro e w49 ⟨rfl, hb⟩
            refine ⟨_, rfl, ?_⟩
            replace BK352 := bb BK352 hb
            replace BK353 := bb BK353 hb
            replace BK357 := bb BK357 hb
            replace BK362 := bb BK362 hb
            replace HB := bs HB hb
            (try clear hb)
            (try clear hb2)
            (try clear hk)
            (try clear hi)
            refine hK.out _ _ ⟨(blk_cell BK357.out 0).trans rfl, (blk_cell BK357.out 1).trans rfl⟩ (fun hHeld => ?_)
            clear hK K
            refine norm_ (a' := ?_) ?_ ?_
            rotate_left
            · show Act.put _ (some 21) _ = _
              simp only [Act.put, List.setIfInBounds_toArray, List.set_cons_zero, List.set_cons_succ, i64_w, i32_w]
              rfl
            refine pz (i := 4) (N := some 17) #[true, true, true, true, true, false, false, true, false, false] rfl rfl (any_of HT_.out (by kernel_rfl)) (fun _ _ _ h => h) ?_
            refine pz (i := 5) (N := some 22) #[true, true, true, true, true, true, false, true, false, false] rfl rfl (any_of HT_.out (by kernel_rfl)) (fun _ _ _ h => h) ?_
            refine pz (i := 6) (N := some 23) #[true, true, true, true, true, true, true, true, false, false] rfl rfl (any_of HT_.out (by kernel_rfl)) (fun _ _ _ h => h) ?_
            exact norm_ (by simp only [putAll, Act.put, List.setIfInBounds_toArray, List.set_cons_zero, List.set_cons_succ]) (hCont (gb362) _ ⟨hHeld, (bq BK352), (bq BK353), (bq BK357), (bq BK362), GW362.out, GE362.out, NB352_362.out, NB362_352.out, NB353_362.out, NB362_353.out, NB357_362.out, NB362_357.out, (hq HB)⟩)
        · skip
          refine box_step ?hg (N := 8) ?hd (cs := #[.int .u64 0, .int .u64 0]) (t := 89) ?hr ?_; (case hd => rfl); (case hg => rfl); (case hr => first | (go_simp; done) | (go_simp; rfl))
          intro gb362 hg w48 hbox hb
          have BK362 := Aside0.mk (hbox)
          have GW362 := ge HB hg
          have GE362 := ge HB hg
          have NB352_362 := nl BK352 hg
          have NB362_352 := ng NB352_362
          have NB353_362 := nl BK353 hg
          have NB362_353 := ng NB353_362
          have NB357_362 := nl BK357 hg
          have NB362_357 := ng NB357_362
          replace BK352 := bb BK352 hb
          replace BK353 := bb BK353 hb
          replace BK357 := bb BK357 hb
          replace HB := bs HB hb
          clear hb hbox hg
          refine hK.out _ _ ⟨(blk_cell BK357.out 0).trans rfl, (blk_cell BK357.out 1).trans rfl⟩ (fun hHeld => ?_)
          clear hK K
          refine norm_ (a' := ?_) ?_ ?_
          rotate_left
          · show Act.put _ (some 8) _ = _
            simp only [Act.put, List.setIfInBounds_toArray, List.set_cons_zero, List.set_cons_succ, i64_w, i32_w]
            rfl
          refine one_ (i := 2) (N := some 20) #[true, true, true, false, false, false, false, true, false, false] rfl rfl (one_of HT_.out (by kernel_rfl)) (by decide) (fun K hK => ?_)
          refine goes_ Try.func68 (by kernel_rfl) rfl #[.int .i64 a1] (by rfl) rfl rfl zm ?_
          with_reducible refine (corebankref01_size.calls a1 t358 _ A4.out).mono ?_
          rintro e w' ⟨rfl, ⟨nd, rfl⟩⟩
          refine ⟨_, rfl, ?_⟩
          refine hK.out _ _ ⟨(blk_cell BK357.out 0).trans rfl, (blk_cell BK357.out 1).trans rfl⟩ (fun hHeld => ?_)
          clear hK K
          refine norm_ (a' := ?_) ?_ ?_
          rotate_left
          · show Act.put _ (some 20) _ = _
            simp only [Act.put, List.setIfInBounds_toArray, List.set_cons_zero, List.set_cons_succ, i64_w, i32_w]
            rfl
          refine one_ (i := 3) (N := some 21) #[true, true, true, true, false, false, false, true, false, false] rfl rfl (one_of HT_.out (by kernel_rfl)) (by decide) (fun K hK => ?_)
          refine goes_ Try.func67 (by kernel_rfl) rfl #[.agg #[.int .u64 t355, .int .u64 t356], .int .u64 t358] (by rfl) rfl rfl zm ?_
          with_reducible refine (corebankref01_times.calls k t355 t356 t358 t359 t360 true _ A5.out).mono ?_
          rintro e w49 ⟨rfl, hb⟩
          refine ⟨_, rfl, ?_⟩
          replace BK352 := bb BK352 hb
          replace BK353 := bb BK353 hb
          replace BK357 := bb BK357 hb
          replace BK362 := bb BK362 hb
          replace HB := bs HB hb
          (try clear hb)
          (try clear hb2)
          (try clear hk)
          (try clear hi)
          refine hK.out _ _ ⟨(blk_cell BK357.out 0).trans rfl, (blk_cell BK357.out 1).trans rfl⟩ (fun hHeld => ?_)
          clear hK K
          refine norm_ (a' := ?_) ?_ ?_
          rotate_left
          · show Act.put _ (some 21) _ = _
            simp only [Act.put, List.setIfInBounds_toArray, List.set_cons_zero, List.set_cons_succ, i64_w, i32_w]
            rfl
          refine pz (i := 4) (N := some 17) #[true, true, true, true, true, false, false, true, false, false] rfl rfl (any_of HT_.out (by kernel_rfl)) (fun _ _ _ h => h) ?_
          refine pz (i := 5) (N := some 22) #[true, true, true, true, true, true, false, true, false, false] rfl rfl (any_of HT_.out (by kernel_rfl)) (fun _ _ _ h => h) ?_
          refine pz (i := 6) (N := some 23) #[true, true, true, true, true, true, true, true, false, false] rfl rfl (any_of HT_.out (by kernel_rfl)) (fun _ _ _ h => h) ?_
          exact norm_ (by simp only [putAll, Act.put, List.setIfInBounds_toArray, List.set_cons_zero, List.set_cons_succ]) (hCont (gb362) _ ⟨hHeld, (bq BK352), (bq BK353), (bq BK357), (bq BK362), GW362.out, GE362.out, NB352_362.out, NB362_352.out, NB353_362.out, NB362_353.out, NB357_362.out, NB362_357.out, (hq HB)⟩)
      rintro gb362 w50 ⟨hS_, h0_, h1_, h2_, h3_, h4_, h5_, h6_, h7_, h8_, h9_, h10_, h11_, h12_⟩
      have BK362 : Aside0 (w50.heap[gb362]? = some (.cells #[.int .u64 0, .int .u64 0] 89 (0, 0))) := ⟨h3_⟩
      have GW362 : Aside0 (w.heap.size ≤ gb362) := ⟨h4_⟩
      have GE362 : Aside0 (w.heap.size ≤ gb362) := ⟨h5_⟩
      have NB352_362 : Aside0 (gb352 ≠ gb362) := ⟨h6_⟩
      have NB362_352 : Aside0 (gb362 ≠ gb352) := ⟨h7_⟩
      have NB353_362 : Aside0 (gb353 ≠ gb362) := ⟨h8_⟩
      have NB362_353 : Aside0 (gb362 ≠ gb353) := ⟨h9_⟩
      have NB357_362 : Aside0 (gb357 ≠ gb362) := ⟨h10_⟩
      have NB362_357 : Aside0 (gb362 ≠ gb357) := ⟨h11_⟩
      replace BK352 : Aside0 (w50.heap[gb352]? = some (.cells #[.int .i64 a0_0, .int .u64 a0_1] 35 (0, 0))) := ⟨h0_⟩
      replace BK353 : Aside0 (w50.heap[gb353]? = some (.cells #[.int .i64 0, .int .u64 0] 35 (0, 0))) := ⟨h1_⟩
      replace BK357 : Aside0 (w50.heap[gb357]? = some (.cells #[.int .u64 t355, .int .u64 t356] 89 (0, 0))) := ⟨h2_⟩
      replace HB : Aside0 (Below w.heap.size w w50) := ⟨h12_⟩
      clear h0_ h1_ h2_ h3_ h4_ h5_ h6_ h7_ h8_ h9_ h10_ h11_ h12_
      have hHeld : w50.cell? ⟨gb357, 0, none⟩ = some (.int .u64 t355) ∧ w50.cell? ⟨gb357, 1, none⟩ = some (.int .u64 t356) := hS_
      refine norm_ (a' := ?_) ?_ ?_
      rotate_left
      · simp only [putAll, Act.put, List.setIfInBounds_toArray, List.set_cons_zero, List.set_cons_succ]
        rfl
      refine one_ (i := 8) (N := none) #[true, true, true, true, true, true, true, true, true, false] rfl rfl (one_of HT_.out (by kernel_rfl)) (by decide) (fun K hK => ?_)
      have hs51 : w50.cell? ⟨gb362, 0, none⟩ = some (.int .u64 0) := (blk_cell BK362.out 0).trans rfl
      have hfs51 := blk_frozen BK362.out 0
      have hns51_0 := NB352_362.out
      have hns51_1 := NB353_362.out
      have hns51_2 := NB357_362.out
      have hms51_0 := NB362_352.out
      have hms51_1 := NB362_353.out
      have hms51_2 := NB362_357.out
      have hs52 : w50.cell? ⟨gb362, 1, none⟩ = some (.int .u64 0) := (blk_cell BK362.out 1).trans rfl
      have hfs52 := blk_frozen BK362.out 1
      have hns52_0 := NB352_362.out
      have hns52_1 := NB353_362.out
      have hns52_2 := NB357_362.out
      have hms52_0 := NB362_352.out
      have hms52_1 := NB362_353.out
      have hms52_2 := NB362_357.out
      refine skip_ (w1 := ?_) (by rfl) rfl ?_ ?_
      rotate_left
      · go_simp
        rfl
      refine hK.out _ _ ⟨((cell_far (p := ⟨gb362, _, none⟩) NB357_362.out _).trans (((cell_far (p := ⟨gb362, _, none⟩) NB357_362.out _).trans (hHeld.1)))), ((cell_far (p := ⟨gb362, _, none⟩) NB357_362.out _).trans (((cell_far (p := ⟨gb362, _, none⟩) NB357_362.out _).trans (hHeld.2))))⟩ (fun hHeld => ?_)
      clear hK K
      refine pz (i := 9) (N := some 9) #[true, true, true, true, true, true, true, true, true, true] rfl rfl (any_of HT_.out (by kernel_rfl)) (fun _ _ _ h => h) ?_
      refine done_ (done_of HT_.out (by kernel_rfl)) ?_
      have hnb53 := NB362_352.out
      have hnc53 := NB352_362.out
      have hnb54 := NB362_353.out
      have hnc54 := NB353_362.out
      have hnb55 := NB362_357.out
      have hnc55 := NB357_362.out
      obtain ⟨hcz56_0, hcz56_1, hfz56_0, hfz56_1⟩ := cz2 BK362
      try go_wp2_with (first | ((with_reducible refine gate_callee (f := 69) rfl ?_); refine goesL_ (some 30) rfl rfl Try.func69 (by kernel_rfl) rfl #[.bool (t354 != (decide (a1 < 0))), .agg #[.int .u64 t359, .int .u64 t360]] rfl zm ?_; (with_reducible refine (corebankref01_Join.calls (t354 != (decide (a1 < 0))) t359 t360 t363 t364 false _ A6.out).mono ?_); rintro e w57 ⟨rfl, hb⟩; refine ⟨_, rfl, ?_⟩; replace BK352 := bb BK352 hb; replace BK353 := bb BK353 hb; replace BK357 := bb BK357 hb; replace BK362 := bpb BK362 hb #[.int .u64 t359, .int .u64 t360]; replace HB := bs HB hb; (try clear hb); (try clear hb2); (try clear hk); (try clear hi)) | ((with_reducible refine gate_dst (N := 10) rfl ?_); refine box_event ?hg (N := 10) ?hd (cs := #[.int .i64 0, .int .u64 0]) (t := 35) ?hr ?_; (case hd => rfl); (case hg => rfl); (case hr => first | (go_simp; done) | (go_simp; rfl)); intro gb366 hg w58 hbox hb; have BK366 := Aside0.mk (hbox); have GW366 := ge HB hg; have GE366 := ge HB hg; have NB352_366 := nl BK352 hg; have NB366_352 := ng NB352_366; have NB353_366 := nl BK353 hg; have NB366_353 := ng NB353_366; have NB357_366 := nl BK357 hg; have NB366_357 := ng NB357_366; have NB362_366 := nl BK362 hg; have NB366_362 := ng NB362_366; replace BK352 := bb BK352 hb; replace BK353 := bb BK353 hb; replace BK357 := bb BK357 hb; replace BK362 := bb BK362 hb; replace HB := bs HB hb; clear hb hbox hg; have hnb59 := NB366_352.out; have hnc59 := NB352_366.out; have hnb60 := NB366_353.out; have hnc60 := NB353_366.out; have hnb61 := NB366_357.out; have hnc61 := NB357_366.out; have hnb62 := NB366_362.out; have hnc62 := NB362_366.out; obtain ⟨hcz63_0, hcz63_1, hfz63_0, hfz63_1⟩ := cz2 BK366; obtain ⟨hcz64_0, hcz64_1, hfz64_0, hfz64_1⟩ := cz2 BK353))
      refine bodyPost_ret (results_ct rfl _ _ gb353 35 #[.int .i64 0, .int .u64 0] (0, 0) _ rfl (bp BK353) Try.underlying35 rfl (by kernel_rfl)) rfl ?_
      exact ⟨by first | rfl | (simp [errW_none, errW_some] <;> rfl) | (simp [*, errW_none, errW_some] <;> rfl), hq HB⟩
  · replace c7 := Bool.eq_false_iff.mpr c7
    subst c7
    have H1 : (some (0, 0, 6)) = some (r1, r2, r3) := by rw [if_neg (show ¬ (false = true) by decide)] at H; exact H
    clear H
    have H := H1
    clear H1
    simp only [Option.some.injEq, Prod.mk.injEq] at H
    obtain ⟨rfl, rfl, rfl⟩ := H
    go_enter Try.func46, Try.ntmps46
    try go_wp2_with (first | ((with_reducible refine gate_dst (N := 2) rfl ?_); refine box_event ?hg (N := 2) ?hd (cs := #[.int .i64 a0_0, .int .u64 a0_1]) (t := 35) ?hr ?_; (case hd => rfl); (case hg => rfl); (case hr => first | (go_simp; done) | (go_simp; rfl)); intro gb352 hg w65 hbox hb; have BK352 := Aside0.mk (hbox); have GW352 := ge HB hg; have GE352 := ge HB hg; replace HB := bs HB hb; clear hb hbox hg) | ((with_reducible refine gate_dst (N := 4) rfl ?_); refine box_event ?hg (N := 4) ?hd (cs := #[.int .i64 0, .int .u64 0]) (t := 35) ?hr ?_; (case hd => rfl); (case hg => rfl); (case hr => first | (go_simp; done) | (go_simp; rfl)); intro gb353 hg w66 hbox hb; have BK353 := Aside0.mk (hbox); have GW353 := ge HB hg; have GE353 := ge HB hg; have NB352_353 := nl BK352 hg; have NB353_352 := ng NB352_353; replace BK352 := bb BK352 hb; replace HB := bs HB hb; clear hb hbox hg; have hnb67 := NB352_353.out; have hnc67 := NB353_352.out; obtain ⟨hcz68_0, hcz68_1, hfz68_0, hfz68_1⟩ := cz2 BK352) | ((with_reducible refine gate_callee (f := 48) rfl ?_); refine goesL_ (some 14) rfl rfl Try.func48 (by kernel_rfl) rfl #[.agg #[.int .i64 a0_0, .int .u64 a0_1]] rfl zm ?_; (with_reducible refine (corebankref01_Split.calls a0_0 a0_1 t354 t355 t356 _ A3.out).mono ?_); rintro e w69 ⟨rfl, hb⟩; refine ⟨_, rfl, ?_⟩; replace BK352 := bb BK352 hb; replace BK353 := bb BK353 hb; replace HB := bs HB hb; (try clear hb); (try clear hb2); (try clear hk); (try clear hi)) | ((with_reducible refine gate_dst (N := 7) rfl ?_); refine box_event ?hg (N := 7) ?hd (cs := #[.int .u64 0, .int .u64 0]) (t := 89) ?hr ?_; (case hd => rfl); (case hg => rfl); (case hr => first | (go_simp; done) | (go_simp; rfl)); intro gb357 hg w70 hbox hb; have BK357 := Aside0.mk (hbox); have GW357 := ge HB hg; have GE357 := ge HB hg; have NB352_357 := nl BK352 hg; have NB357_352 := ng NB352_357; have NB353_357 := nl BK353 hg; have NB357_353 := ng NB353_357; replace BK352 := bb BK352 hb; replace BK353 := bb BK353 hb; replace HB := bs HB hb; clear hb hbox hg; have hnb71 := NB357_352.out; have hnc71 := NB352_357.out; have hnb72 := NB357_353.out; have hnc72 := NB353_357.out; obtain ⟨hcz73_0, hcz73_1, hfz73_0, hfz73_1⟩ := cz2 BK357))
    have n0_ : Aside0 (((w70.setCell ⟨gb357, 0, none⟩ (.int .u64 t355)).setCell ⟨gb357, 1, none⟩ (.int .u64 t356)).heap[gb352]? = some (.cells #[.int .i64 a0_0, .int .u64 a0_1] 35 (0, 0))) := ⟨bq BK352⟩
    have n1_ : Aside0 (((w70.setCell ⟨gb357, 0, none⟩ (.int .u64 t355)).setCell ⟨gb357, 1, none⟩ (.int .u64 t356)).heap[gb353]? = some (.cells #[.int .i64 0, .int .u64 0] 35 (0, 0))) := ⟨bq BK353⟩
    have n2_ : Aside0 (((w70.setCell ⟨gb357, 0, none⟩ (.int .u64 t355)).setCell ⟨gb357, 1, none⟩ (.int .u64 t356)).heap[gb357]? = some (.cells #[.int .u64 t355, .int .u64 t356] 89 (0, 0))) := ⟨bp BK357⟩
    have n3_ : Aside0 (Below w.heap.size w ((w70.setCell ⟨gb357, 0, none⟩ (.int .u64 t355)).setCell ⟨gb357, 1, none⟩ (.int .u64 t356))) := ⟨hq HB⟩
    (try clear BK352)
    (try clear BK353)
    (try clear BK357)
    (try clear HB)
    generalize ((w70.setCell ⟨gb357, 0, none⟩ (.int .u64 t355)).setCell ⟨gb357, 1, none⟩ (.int .u64 t356)) = w74 at n0_ n1_ n2_ n3_ ⊢
    have BK352 := n0_
    have BK353 := n1_
    have BK357 := n2_
    have HB := n3_
    clear n0_ n1_ n2_ n3_
    replace BK352 := bd1 BK352
    replace BK353 := bd1 BK353
    replace BK357 := bd1 BK357
    replace HB := hb1 HB
    refine start_ (n := 10) (S := fun w' => w'.cell? ⟨gb357, 0, none⟩ = some (.int .u64 t355) ∧ w'.cell? ⟨gb357, 1, none⟩ = some (.int .u64 t356)) (ds := []) #[false, false, false, false, false, false, false, false, false, false] (by kernel_rfl) rfl rfl ⟨(blk_cell BK357.out 0).trans rfl, (blk_cell BK357.out 1).trans rfl⟩ (fun hHeld => ?_); refine with_tabW corebankref01_Scale.tab2 corebankref01_Scale.bits2 (fun HT_ HW_ => ?_)
    generalize w74.drew = w75 at BK352 BK353 BK357 HB hHeld ⊢
    refine pz (i := 1) (N := some 19) #[false, true, false, false, false, false, false, false, false, false] rfl rfl (any_of HT_.out (by kernel_rfl)) (fun _ _ _ h => h) ?_
    refine tz2 (i := 0) (N := some 18) #[true, true, false, false, false, false, false, false, false, false] rfl rfl (take_ofW HT_.out HW_.out (by kernel_rfl)) (fun _ _ _ h => h) hHeld ?_
    refine join_ (σ := Nat) 2 #[true, true, true, true, true, true, true, true, false, false] (fun s_ => [(20, .int .u64 t358), (21, .tuple #[.agg #[.int .u64 t359, .int .u64 t360], .bool false]), (8, .pointer (some ⟨s_, 0, none⟩)), (17, .tuple #[.agg #[.int .u64 t359, .int .u64 t360], .bool false]), (22, .agg #[.int .u64 t359, .int .u64 t360]), (23, .bool false)]) (fun s_ w' => (w'.cell? ⟨gb357, 0, none⟩ = some (.int .u64 t355) ∧ w'.cell? ⟨gb357, 1, none⟩ = some (.int .u64 t356)) ∧ (w'.heap[gb352]? = some (.cells #[.int .i64 a0_0, .int .u64 a0_1] 35 (0, 0))) ∧ (w'.heap[gb353]? = some (.cells #[.int .i64 0, .int .u64 0] 35 (0, 0))) ∧ (w'.heap[gb357]? = some (.cells #[.int .u64 t355, .int .u64 t356] 89 (0, 0))) ∧ (w'.heap[s_]? = some (.cells #[.int .u64 0, .int .u64 0] 89 (0, 0))) ∧ (w.heap.size ≤ s_) ∧ (w.heap.size ≤ s_) ∧ (gb352 ≠ s_) ∧ (s_ ≠ gb352) ∧ (gb353 ≠ s_) ∧ (s_ ≠ gb353) ∧ (gb357 ≠ s_) ∧ (s_ ≠ gb357) ∧ (Below w.heap.size w w')) ?_ ?_
    rotate_left
    · intro hCont
      refine two_ (i := 2) (j := 7) (Ni := some 20) (Nj := some 8) #[true, true, true, false, false, false, false, false, false, false] #[true, true, false, false, false, false, false, true, false, false] rfl rfl rfl rfl (two_of HT_.out (by kernel_rfl)) (by decide) (by decide) (fun K hK => ?_) (fun K hK => ?_)
      · skip
        refine goes_ Try.func68 (by kernel_rfl) rfl #[.int .i64 a1] (by rfl) rfl rfl zm ?_
        with_reducible refine (corebankref01_size.calls a1 t358 _ A4.out).mono ?_
        rintro e w' ⟨rfl, ⟨nd, rfl⟩⟩
        refine ⟨_, rfl, ?_⟩
        refine hK.out _ _ ⟨(blk_cell BK357.out 0).trans rfl, (blk_cell BK357.out 1).trans rfl⟩ (fun hHeld => ?_)
        clear hK K
        refine norm_ (a' := ?_) ?_ ?_
        rotate_left
        · show Act.put _ (some 20) _ = _
          simp only [Act.put, List.setIfInBounds_toArray, List.set_cons_zero, List.set_cons_succ, i64_w, i32_w]
          rfl
        refine two_ (i := 3) (j := 7) (Ni := some 21) (Nj := some 8) #[true, true, true, true, false, false, false, false, false, false] #[true, true, true, false, false, false, false, true, false, false] rfl rfl rfl rfl (two_of HT_.out (by kernel_rfl)) (by decide) (by decide) (fun K hK => ?_) (fun K hK => ?_)
        · skip
          refine goes_ Try.func67 (by kernel_rfl) rfl #[.agg #[.int .u64 t355, .int .u64 t356], .int .u64 t358] (by rfl) rfl rfl zm ?_
          with_reducible refine (corebankref01_times.calls k t355 t356 t358 t359 t360 false _ A5.out).mono ?_
          rintro e w76 ⟨rfl, hb⟩
          refine ⟨_, rfl, ?_⟩
          replace BK352 := bb BK352 hb
          replace BK353 := bb BK353 hb
          replace BK357 := bb BK357 hb
          replace HB := bs HB hb
          (try clear hb)
          (try clear hb2)
          (try clear hk)
          (try clear hi)
          refine hK.out _ _ ⟨(blk_cell BK357.out 0).trans rfl, (blk_cell BK357.out 1).trans rfl⟩ (fun hHeld => ?_)
          clear hK K
          refine norm_ (a' := ?_) ?_ ?_
          rotate_left
          · show Act.put _ (some 21) _ = _
            simp only [Act.put, List.setIfInBounds_toArray, List.set_cons_zero, List.set_cons_succ, i64_w, i32_w]
            rfl
          refine pz (i := 4) (N := some 17) #[true, true, true, true, true, false, false, false, false, false] rfl rfl (any_of HT_.out (by kernel_rfl)) (fun _ _ _ h => h) ?_
          refine pz (i := 5) (N := some 22) #[true, true, true, true, true, true, false, false, false, false] rfl rfl (any_of HT_.out (by kernel_rfl)) (fun _ _ _ h => h) ?_
          refine pz (i := 6) (N := some 23) #[true, true, true, true, true, true, true, false, false, false] rfl rfl (any_of HT_.out (by kernel_rfl)) (fun _ _ _ h => h) ?_
          refine one_ (i := 7) (N := some 8) #[true, true, true, true, true, true, true, true, false, false] rfl rfl (one_of HT_.out (by kernel_rfl)) (by decide) (fun K hK => ?_)
          refine box_step ?hg (N := 8) ?hd (cs := #[.int .u64 0, .int .u64 0]) (t := 89) ?hr ?_; (case hd => rfl); (case hg => rfl); (case hr => first | (go_simp; done) | (go_simp; rfl))
          intro gb362 hg w77 hbox hb
          have BK362 := Aside0.mk (hbox)
          have GW362 := ge HB hg
          have GE362 := ge HB hg
          have NB352_362 := nl BK352 hg
          have NB362_352 := ng NB352_362
          have NB353_362 := nl BK353 hg
          have NB362_353 := ng NB353_362
          have NB357_362 := nl BK357 hg
          have NB362_357 := ng NB357_362
          replace BK352 := bb BK352 hb
          replace BK353 := bb BK353 hb
          replace BK357 := bb BK357 hb
          replace HB := bs HB hb
          clear hb hbox hg
          refine hK.out _ _ ⟨(blk_cell BK357.out 0).trans rfl, (blk_cell BK357.out 1).trans rfl⟩ (fun hHeld => ?_)
          clear hK K
          refine norm_ (a' := ?_) ?_ ?_
          rotate_left
          · show Act.put _ (some 8) _ = _
            simp only [Act.put, List.setIfInBounds_toArray, List.set_cons_zero, List.set_cons_succ, i64_w, i32_w]
            rfl
          exact norm_ (by simp only [putAll, Act.put, List.setIfInBounds_toArray, List.set_cons_zero, List.set_cons_succ]) (hCont (gb362) _ ⟨hHeld, (bq BK352), (bq BK353), (bq BK357), (bq BK362), GW362.out, GE362.out, NB352_362.out, NB362_352.out, NB353_362.out, NB362_353.out, NB357_362.out, NB362_357.out, (hq HB)⟩)
        · skip
          refine box_step ?hg (N := 8) ?hd (cs := #[.int .u64 0, .int .u64 0]) (t := 89) ?hr ?_; (case hd => rfl); (case hg => rfl); (case hr => first | (go_simp; done) | (go_simp; rfl))
          intro gb362 hg w76 hbox hb
          have BK362 := Aside0.mk (hbox)
          have GW362 := ge HB hg
          have GE362 := ge HB hg
          have NB352_362 := nl BK352 hg
          have NB362_352 := ng NB352_362
          have NB353_362 := nl BK353 hg
          have NB362_353 := ng NB353_362
          have NB357_362 := nl BK357 hg
          have NB362_357 := ng NB357_362
          replace BK352 := bb BK352 hb
          replace BK353 := bb BK353 hb
          replace BK357 := bb BK357 hb
          replace HB := bs HB hb
          clear hb hbox hg
          refine hK.out _ _ ⟨(blk_cell BK357.out 0).trans rfl, (blk_cell BK357.out 1).trans rfl⟩ (fun hHeld => ?_)
          clear hK K
          refine norm_ (a' := ?_) ?_ ?_
          rotate_left
          · show Act.put _ (some 8) _ = _
            simp only [Act.put, List.setIfInBounds_toArray, List.set_cons_zero, List.set_cons_succ, i64_w, i32_w]
            rfl
          refine one_ (i := 3) (N := some 21) #[true, true, true, true, false, false, false, true, false, false] rfl rfl (one_of HT_.out (by kernel_rfl)) (by decide) (fun K hK => ?_)
          refine goes_ Try.func67 (by kernel_rfl) rfl #[.agg #[.int .u64 t355, .int .u64 t356], .int .u64 t358] (by rfl) rfl rfl zm ?_
          with_reducible refine (corebankref01_times.calls k t355 t356 t358 t359 t360 false _ A5.out).mono ?_
          rintro e w77 ⟨rfl, hb⟩
          refine ⟨_, rfl, ?_⟩
          replace BK352 := bb BK352 hb
          replace BK353 := bb BK353 hb
          replace BK357 := bb BK357 hb
          replace BK362 := bb BK362 hb
          replace HB := bs HB hb
          (try clear hb)
          (try clear hb2)
          (try clear hk)
          (try clear hi)
          refine hK.out _ _ ⟨(blk_cell BK357.out 0).trans rfl, (blk_cell BK357.out 1).trans rfl⟩ (fun hHeld => ?_)
          clear hK K
          refine norm_ (a' := ?_) ?_ ?_
          rotate_left
          · show Act.put _ (some 21) _ = _
            simp only [Act.put, List.setIfInBounds_toArray, List.set_cons_zero, List.set_cons_succ, i64_w, i32_w]
            rfl
          refine pz (i := 4) (N := some 17) #[true, true, true, true, true, false, false, true, false, false] rfl rfl (any_of HT_.out (by kernel_rfl)) (fun _ _ _ h => h) ?_
          refine pz (i := 5) (N := some 22) #[true, true, true, true, true, true, false, true, false, false] rfl rfl (any_of HT_.out (by kernel_rfl)) (fun _ _ _ h => h) ?_
          refine pz (i := 6) (N := some 23) #[true, true, true, true, true, true, true, true, false, false] rfl rfl (any_of HT_.out (by kernel_rfl)) (fun _ _ _ h => h) ?_
          exact norm_ (by simp only [putAll, Act.put, List.setIfInBounds_toArray, List.set_cons_zero, List.set_cons_succ]) (hCont (gb362) _ ⟨hHeld, (bq BK352), (bq BK353), (bq BK357), (bq BK362), GW362.out, GE362.out, NB352_362.out, NB362_352.out, NB353_362.out, NB362_353.out, NB357_362.out, NB362_357.out, (hq HB)⟩)
      · skip
        refine box_step ?hg (N := 8) ?hd (cs := #[.int .u64 0, .int .u64 0]) (t := 89) ?hr ?_; (case hd => rfl); (case hg => rfl); (case hr => first | (go_simp; done) | (go_simp; rfl))
        intro gb362 hg w76 hbox hb
        have BK362 := Aside0.mk (hbox)
        have GW362 := ge HB hg
        have GE362 := ge HB hg
        have NB352_362 := nl BK352 hg
        have NB362_352 := ng NB352_362
        have NB353_362 := nl BK353 hg
        have NB362_353 := ng NB353_362
        have NB357_362 := nl BK357 hg
        have NB362_357 := ng NB357_362
        replace BK352 := bb BK352 hb
        replace BK353 := bb BK353 hb
        replace BK357 := bb BK357 hb
        replace HB := bs HB hb
        clear hb hbox hg
        refine hK.out _ _ ⟨(blk_cell BK357.out 0).trans rfl, (blk_cell BK357.out 1).trans rfl⟩ (fun hHeld => ?_)
        clear hK K
        refine norm_ (a' := ?_) ?_ ?_
        rotate_left
        · show Act.put _ (some 8) _ = _
          simp only [Act.put, List.setIfInBounds_toArray, List.set_cons_zero, List.set_cons_succ, i64_w, i32_w]
          rfl
        refine one_ (i := 2) (N := some 20) #[true, true, true, false, false, false, false, true, false, false] rfl rfl (one_of HT_.out (by kernel_rfl)) (by decide) (fun K hK => ?_)
        refine goes_ Try.func68 (by kernel_rfl) rfl #[.int .i64 a1] (by rfl) rfl rfl zm ?_
        with_reducible refine (corebankref01_size.calls a1 t358 _ A4.out).mono ?_
        rintro e w' ⟨rfl, ⟨nd, rfl⟩⟩
        refine ⟨_, rfl, ?_⟩
        refine hK.out _ _ ⟨(blk_cell BK357.out 0).trans rfl, (blk_cell BK357.out 1).trans rfl⟩ (fun hHeld => ?_)
        clear hK K
        refine norm_ (a' := ?_) ?_ ?_
        rotate_left
        · show Act.put _ (some 20) _ = _
          simp only [Act.put, List.setIfInBounds_toArray, List.set_cons_zero, List.set_cons_succ, i64_w, i32_w]
          rfl
        refine one_ (i := 3) (N := some 21) #[true, true, true, true, false, false, false, true, false, false] rfl rfl (one_of HT_.out (by kernel_rfl)) (by decide) (fun K hK => ?_)
        refine goes_ Try.func67 (by kernel_rfl) rfl #[.agg #[.int .u64 t355, .int .u64 t356], .int .u64 t358] (by rfl) rfl rfl zm ?_
        with_reducible refine (corebankref01_times.calls k t355 t356 t358 t359 t360 false _ A5.out).mono ?_
        rintro e w77 ⟨rfl, hb⟩
        refine ⟨_, rfl, ?_⟩
        replace BK352 := bb BK352 hb
        replace BK353 := bb BK353 hb
        replace BK357 := bb BK357 hb
        replace BK362 := bb BK362 hb
        replace HB := bs HB hb
        (try clear hb)
        (try clear hb2)
        (try clear hk)
        (try clear hi)
        refine hK.out _ _ ⟨(blk_cell BK357.out 0).trans rfl, (blk_cell BK357.out 1).trans rfl⟩ (fun hHeld => ?_)
        clear hK K
        refine norm_ (a' := ?_) ?_ ?_
        rotate_left
        · show Act.put _ (some 21) _ = _
          simp only [Act.put, List.setIfInBounds_toArray, List.set_cons_zero, List.set_cons_succ, i64_w, i32_w]
          rfl
        refine pz (i := 4) (N := some 17) #[true, true, true, true, true, false, false, true, false, false] rfl rfl (any_of HT_.out (by kernel_rfl)) (fun _ _ _ h => h) ?_
        refine pz (i := 5) (N := some 22) #[true, true, true, true, true, true, false, true, false, false] rfl rfl (any_of HT_.out (by kernel_rfl)) (fun _ _ _ h => h) ?_
        refine pz (i := 6) (N := some 23) #[true, true, true, true, true, true, true, true, false, false] rfl rfl (any_of HT_.out (by kernel_rfl)) (fun _ _ _ h => h) ?_
        exact norm_ (by simp only [putAll, Act.put, List.setIfInBounds_toArray, List.set_cons_zero, List.set_cons_succ]) (hCont (gb362) _ ⟨hHeld, (bq BK352), (bq BK353), (bq BK357), (bq BK362), GW362.out, GE362.out, NB352_362.out, NB362_352.out, NB353_362.out, NB362_353.out, NB357_362.out, NB362_357.out, (hq HB)⟩)
    rintro gb362 w78 ⟨hS_, h0_, h1_, h2_, h3_, h4_, h5_, h6_, h7_, h8_, h9_, h10_, h11_, h12_⟩
    have BK362 : Aside0 (w78.heap[gb362]? = some (.cells #[.int .u64 0, .int .u64 0] 89 (0, 0))) := ⟨h3_⟩
    have GW362 : Aside0 (w.heap.size ≤ gb362) := ⟨h4_⟩
    have GE362 : Aside0 (w.heap.size ≤ gb362) := ⟨h5_⟩
    have NB352_362 : Aside0 (gb352 ≠ gb362) := ⟨h6_⟩
    have NB362_352 : Aside0 (gb362 ≠ gb352) := ⟨h7_⟩
    have NB353_362 : Aside0 (gb353 ≠ gb362) := ⟨h8_⟩
    have NB362_353 : Aside0 (gb362 ≠ gb353) := ⟨h9_⟩
    have NB357_362 : Aside0 (gb357 ≠ gb362) := ⟨h10_⟩
    have NB362_357 : Aside0 (gb362 ≠ gb357) := ⟨h11_⟩
    replace BK352 : Aside0 (w78.heap[gb352]? = some (.cells #[.int .i64 a0_0, .int .u64 a0_1] 35 (0, 0))) := ⟨h0_⟩
    replace BK353 : Aside0 (w78.heap[gb353]? = some (.cells #[.int .i64 0, .int .u64 0] 35 (0, 0))) := ⟨h1_⟩
    replace BK357 : Aside0 (w78.heap[gb357]? = some (.cells #[.int .u64 t355, .int .u64 t356] 89 (0, 0))) := ⟨h2_⟩
    replace HB : Aside0 (Below w.heap.size w w78) := ⟨h12_⟩
    clear h0_ h1_ h2_ h3_ h4_ h5_ h6_ h7_ h8_ h9_ h10_ h11_ h12_
    have hHeld : w78.cell? ⟨gb357, 0, none⟩ = some (.int .u64 t355) ∧ w78.cell? ⟨gb357, 1, none⟩ = some (.int .u64 t356) := hS_
    refine norm_ (a' := ?_) ?_ ?_
    rotate_left
    · simp only [putAll, Act.put, List.setIfInBounds_toArray, List.set_cons_zero, List.set_cons_succ]
      rfl
    refine one_ (i := 8) (N := none) #[true, true, true, true, true, true, true, true, true, false] rfl rfl (one_of HT_.out (by kernel_rfl)) (by decide) (fun K hK => ?_)
    have hs79 : w78.cell? ⟨gb362, 0, none⟩ = some (.int .u64 0) := (blk_cell BK362.out 0).trans rfl
    have hfs79 := blk_frozen BK362.out 0
    have hns79_0 := NB352_362.out
    have hns79_1 := NB353_362.out
    have hns79_2 := NB357_362.out
    have hms79_0 := NB362_352.out
    have hms79_1 := NB362_353.out
    have hms79_2 := NB362_357.out
    have hs80 : w78.cell? ⟨gb362, 1, none⟩ = some (.int .u64 0) := (blk_cell BK362.out 1).trans rfl
    have hfs80 := blk_frozen BK362.out 1
    have hns80_0 := NB352_362.out
    have hns80_1 := NB353_362.out
    have hns80_2 := NB357_362.out
    have hms80_0 := NB362_352.out
    have hms80_1 := NB362_353.out
    have hms80_2 := NB362_357.out
    refine skip_ (w1 := ?_) (by rfl) rfl ?_ ?_
    rotate_left
    · go_simp
      rfl
    refine hK.out _ _ ⟨((cell_far (p := ⟨gb362, _, none⟩) NB357_362.out _).trans (((cell_far (p := ⟨gb362, _, none⟩) NB357_362.out _).trans (hHeld.1)))), ((cell_far (p := ⟨gb362, _, none⟩) NB357_362.out _).trans (((cell_far (p := ⟨gb362, _, none⟩) NB357_362.out _).trans (hHeld.2))))⟩ (fun hHeld => ?_)
    clear hK K
    refine pz (i := 9) (N := some 9) #[true, true, true, true, true, true, true, true, true, true] rfl rfl (any_of HT_.out (by kernel_rfl)) (fun _ _ _ h => h) ?_
    refine done_ (done_of HT_.out (by kernel_rfl)) ?_
    have hnb81 := NB362_352.out
    have hnc81 := NB352_362.out
    have hnb82 := NB362_353.out
    have hnc82 := NB353_362.out
    have hnb83 := NB362_357.out
    have hnc83 := NB357_362.out
    obtain ⟨hcz84_0, hcz84_1, hfz84_0, hfz84_1⟩ := cz2 BK362
    try go_wp2_with (first | ((with_reducible refine gate_callee (f := 69) rfl ?_); refine goesL_ (some 30) rfl rfl Try.func69 (by kernel_rfl) rfl #[.bool (t354 != (decide (a1 < 0))), .agg #[.int .u64 t359, .int .u64 t360]] rfl zm ?_; (with_reducible refine (corebankref01_Join.calls (t354 != (decide (a1 < 0))) t359 t360 t363 t364 t365 _ A6.out).mono ?_); rintro e w85 ⟨rfl, hb⟩; refine ⟨_, rfl, ?_⟩; replace BK352 := bb BK352 hb; replace BK353 := bb BK353 hb; replace BK357 := bb BK357 hb; replace BK362 := bpb BK362 hb #[.int .u64 t359, .int .u64 t360]; replace HB := bs HB hb; (try clear hb); (try clear hb2); (try clear hk); (try clear hi)) | ((with_reducible refine gate_dst (N := 10) rfl ?_); refine box_event ?hg (N := 10) ?hd (cs := #[.int .i64 0, .int .u64 0]) (t := 35) ?hr ?_; (case hd => rfl); (case hg => rfl); (case hr => first | (go_simp; done) | (go_simp; rfl)); intro gb366 hg w86 hbox hb; have BK366 := Aside0.mk (hbox); have GW366 := ge HB hg; have GE366 := ge HB hg; have NB352_366 := nl BK352 hg; have NB366_352 := ng NB352_366; have NB353_366 := nl BK353 hg; have NB366_353 := ng NB353_366; have NB357_366 := nl BK357 hg; have NB366_357 := ng NB357_366; have NB362_366 := nl BK362 hg; have NB366_362 := ng NB362_366; replace BK352 := bb BK352 hb; replace BK353 := bb BK353 hb; replace BK357 := bb BK357 hb; replace BK362 := bb BK362 hb; replace HB := bs HB hb; clear hb hbox hg; have hnb87 := NB366_352.out; have hnc87 := NB352_366.out; have hnb88 := NB366_353.out; have hnc88 := NB353_366.out; have hnb89 := NB366_357.out; have hnc89 := NB357_366.out; have hnb90 := NB366_362.out; have hnc90 := NB362_366.out; obtain ⟨hcz91_0, hcz91_1, hfz91_0, hfz91_1⟩ := cz2 BK366; obtain ⟨hcz92_0, hcz92_1, hfz92_0, hfz92_1⟩ := cz2 BK353))
    refine bodyPost_ret (results_ct rfl _ _ gb353 35 #[.int .i64 0, .int .u64 0] (0, 0) _ rfl (bp BK353) Try.underlying35 rfl (by kernel_rfl)) rfl ?_
    exact ⟨by first | rfl | (simp [errW_none, errW_some] <;> rfl) | (simp [*, errW_none, errW_some] <;> rfl), hq HB⟩

end Go.Proofs.Ytlmabdiodopidaa.P
end
section
set_option linter.unusedVariables false
set_option linter.unusedSimpArgs false
namespace Go.Proofs.Ytlmabdiodopidaa.P
open Go.Proofs.Ytlmabdiodopidaa.G
attribute [local go_sem high] un_not64 un_noti run_add64
open Go.RowKit Go.Proofs.YtlmabdiodopidaaW.PrintWords Go.Proofs.YtlmabdiodopidaaW.PrintLast Go.Proofs.YtlmabdiodopidaaW.PrintMore
attribute [local go_sem] max2_int min2_int max_two min_two max_three min_three max_four min_four   -- for this text's walks alone
set_option linter.unusedVariables false
set_option linter.unusedSimpArgs false

/-! ### corebankref01_Mul: function 47 -/
def corebankref01_Mul.f (k : Nat) (a0 : Int) (a1 : Int) : Option (Int × Int) := (corebankref01_Of.f a0).bind fun bt368 => ((corebankref01_Scale.f k bt368.1 bt368.2 a1).bind fun bt370 => (some (bt370.1, bt370.2.1)))
theorem corebankref01_Mul.mono : ∀ a0 a1 k, LeO (corebankref01_Mul.f k a0 a1) (corebankref01_Mul.f (k + 1) a0 a1) := by
  intro a0 a1 k
  unfold corebankref01_Mul.f
  repeat' first
      | (with_reducible exact corebankref01_Scale.mono _ _ _ _)
      | (with_reducible exact LeO.refl _)
      | (with_reducible exact LeO.none _)
      | (with_reducible refine LeO.ite ?_ ?_)
      | (with_reducible refine LeO.bind ?_ (fun _ => ?_))
      | exact corebankref01_Scale.mono _ _ _ _
      | exact LeO.none _
      | refine LeO.ite ?_ ?_
      | refine LeO.bind ?_ (fun _ => ?_)
set_option maxHeartbeats 8000000 in
set_option maxRecDepth 100000 in
theorem corebankref01_Mul.calls (k : Nat) (a0 : Int) (a1 : Int) (r1 : Int) (r2 : Int) (w : World) (h : corebankref01_Mul.f k a0 a1 = some (r1, r2)) :
    Calls Try.prog 47 #[.int .i64 a0, .int .i64 a1] w fun e w' => e = .returned (.agg #[.int .i64 r1, .int .u64 r2]) ∧ Below w.heap.size w w' := by
  have hu35 := Try.underlying35
  have HB := Aside0.mk (Below.refl w.heap.size w)
  have H : ((corebankref01_Of.f a0).bind fun bt368 => ((corebankref01_Scale.f k bt368.1 bt368.2 a1).bind fun bt370 => (some (bt370.1, bt370.2.1)))) = some (r1, r2) := h
  clear h
  replace H := Option.bind_eq_some_iff.mp H
  obtain ⟨⟨t368, t369⟩, A30, H⟩ := H
  replace H : ((corebankref01_Scale.f k t368 t369 a1).bind fun bt370 => (some (bt370.1, bt370.2.1))) = some (r1, r2) := H
  have A3 := Aside0.mk A30
  clear A30
  replace H := Option.bind_eq_some_iff.mp H
  obtain ⟨⟨t370, t371, t372⟩, A40, H⟩ := H
  replace H : (some (t370, t371)) = some (r1, r2) := H
  have A4 := Aside0.mk A40
  clear A40
  simp only [Option.some.injEq, Prod.mk.injEq] at H
  obtain ⟨rfl, rfl⟩ := H
  go_enter Try.func47, Try.ntmps47
  go_wp2_with (first | ((with_reducible refine gate_dst (N := 4) rfl ?_); refine box_event ?hg (N := 4) ?hd (cs := #[.int .i64 0, .int .u64 0]) (t := 35) ?hr ?_; (case hd => rfl); (case hg => rfl); (case hr => first | (go_simp; done) | (go_simp; rfl)); intro gb367 hg w5 hbox hb; have BK367 := Aside0.mk (hbox); have GW367 := ge HB hg; have GE367 := ge HB hg; replace HB := bs HB hb; clear hb hbox hg) | ((with_reducible refine gate_callee (f := 41) rfl ?_); refine goesL_ (some 9) rfl rfl Try.func41 (by kernel_rfl) rfl #[.int .i64 a0] rfl zm ?_; (with_reducible refine (corebankref01_Of.calls a0 t368 t369 _ A3.out).mono ?_); rintro e w6 ⟨rfl, hb⟩; refine ⟨_, rfl, ?_⟩; replace BK367 := bb BK367 hb; replace HB := bs HB hb; (try clear hb); (try clear hb2); (try clear hk); (try clear hi)) | ((with_reducible refine gate_callee (f := 46) rfl ?_); refine goesL_ (some 11) rfl rfl Try.func46 (by kernel_rfl) rfl #[.agg #[.int .i64 t368, .int .u64 t369], .int .i64 a1] rfl zm ?_; (with_reducible refine (corebankref01_Scale.calls k t368 t369 a1 t370 t371 t372 _ A4.out).mono ?_); rintro e w7 ⟨rfl, hb⟩; refine ⟨_, rfl, ?_⟩; replace BK367 := bb BK367 hb; replace HB := bs HB hb; (try clear hb); (try clear hb2); (try clear hk); (try clear hi)) | ((with_reducible refine gate_dst (N := 5) rfl ?_); refine box_event ?hg (N := 5) ?hd (cs := #[.int .i64 0, .int .u64 0]) (t := 35) ?hr ?_; (case hd => rfl); (case hg => rfl); (case hr => first | (go_simp; done) | (go_simp; rfl)); intro gb373 hg w8 hbox hb; have BK373 := Aside0.mk (hbox); have GW373 := ge HB hg; have GE373 := ge HB hg; have NB367_373 := nl BK367 hg; have NB373_367 := ng NB367_373; replace BK367 := bb BK367 hb; replace HB := bs HB hb; clear hb hbox hg; have hnb9 := NB373_367.out; have hnc9 := NB367_373.out; obtain ⟨hcz10_0, hcz10_1, hfz10_0, hfz10_1⟩ := cz2 BK373; obtain ⟨hcz11_0, hcz11_1, hfz11_0, hfz11_1⟩ := cz2 BK367))
  refine bodyPost_ret (results_cell_row rfl _ _ gb367 35 #[.int .i64 t370, .int .u64 t371] (0, 0) _ rfl (bp BK367) Try.underlying35 rfl (by kernel_rfl)) rfl ?_
  exact ⟨by first | rfl | (simp [errW_none, errW_some] <;> rfl) | (simp [*, errW_none, errW_some] <;> rfl), hq HB⟩

end Go.Proofs.Ytlmabdiodopidaa.P
end
