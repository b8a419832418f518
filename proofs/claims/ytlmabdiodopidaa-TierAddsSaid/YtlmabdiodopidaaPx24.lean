-- laid by wip/tools/pr.sh (a patched printer; Lean checks it)
import Derived.Test.YtlmabdiodopidaaSq
import Derived.Test.YtlmabdiodopidaaPx0
import Derived.Test.YtlmabdiodopidaaPx21
import Derived.Test.YtlmabdiodopidaaPx22
import Derived.Test.YtlmabdiodopidaaPx23
namespace Go.Proofs.Ytlmabdiodopidaa.P
open Go.Proofs.Ytlmabdiodopidaa.G
attribute [local go_sem high] un_not64 un_noti run_add64
open Go.RowKit Go.Proofs.YtlmabdiodopidaaW.PrintWords Go.Proofs.YtlmabdiodopidaaW.PrintLast Go.Proofs.YtlmabdiodopidaaW.PrintMore
attribute [local go_sem] max2_int min2_int max_two min_two max_three min_three max_four min_four   -- for this text's walks alone
set_option linter.unusedVariables false
set_option linter.unusedSimpArgs false

/-! ### corebankref14_Grains: function 25 -/
mutual
def corebankref14_Grains.l0 : Nat → List (S43) → Int → Int → Option (Int × Int × Int)
  | 0, _, _, _ => none
  | k + 1, x0, x1, x6 => if x6 < (x0.length : Int) then (if 0 ≤ x6 then (if ((rd_T43 x0 x6).f0) < 0 then (some (0, 0, 1)) else (if ((rd_T43 x0 x6).f1) < 0 then (some (0, 0, 1)) else (if ((rd_T43 x0 x6).f1) > 1000000 then (some (0, 0, 1)) else (corebankref14_Grains.l0 k x0 x1 (wrap64 (x6 + 1)))))) else (none)) else (if x1 < 0 then (corebankref14_Grains.j1 k x0 x1 true) else (corebankref14_Grains.j1 k x0 x1 (decide (x1 > 6412320000))))
def corebankref14_Grains.j1 : Nat → List (S43) → Int → Bool → Option (Int × Int × Int)
  | 0, _, _, _ => none
  | k + 1, x0, x1, x51 => if x51 = true then (some (0, 0, 1)) else (corebankref14_Grains.l1 k x0 x1 0 0 0)
def corebankref14_Grains.l1 : Nat → List (S43) → Int → Int → Int → Int → Option (Int × Int × Int)
  | 0, _, _, _, _, _ => none
  | k + 1, x0, x1, x8, x337000, x337001 => if x8 < (x0.length : Int) then (if 0 ≤ x8 then ((corebankref01_Mul.f k ((rd_T43 x0 x8).f0) ((rd_T43 x0 x8).f1)).bind fun bt339 => ((corebankref01_Scale.f k bt339.1 bt339.2 x1).bind fun bt341 => ((corebankref01_Add.f x337000 x337001 bt341.1 bt341.2.1).bind fun bt345 => (corebankref14_Grains.l1 k x0 x1 (wrap64 (x8 + 1)) bt345.1 bt345.2.1)))) else (none)) else (some (x337000, x337001, 0))
end
def corebankref14_Grains.f (k : Nat) (l0 : List (S43)) (a1 : Int) : Option (Int × Int × Int) := if (l0.length : Int) > 6 then (some (0, 0, 5)) else (corebankref14_Grains.l0 k l0 a1 0)
theorem corebankref14_Grains.mono_l : ∀ k, (∀ y0 y1 y2, LeO (corebankref14_Grains.l0 k y0 y1 y2) (corebankref14_Grains.l0 (k + 1) y0 y1 y2)) ∧ (∀ y0 y1 y2, LeO (corebankref14_Grains.j1 k y0 y1 y2) (corebankref14_Grains.j1 (k + 1) y0 y1 y2)) ∧ (∀ y0 y1 y2 y3 y4, LeO (corebankref14_Grains.l1 k y0 y1 y2 y3 y4) (corebankref14_Grains.l1 (k + 1) y0 y1 y2 y3 y4))
  | 0 => ⟨fun _ _ _ r h => by simp [corebankref14_Grains.l0] at h, fun _ _ _ r h => by simp [corebankref14_Grains.j1] at h, fun _ _ _ _ _ r h => by simp [corebankref14_Grains.l1] at h⟩
  | k + 1 => by
    obtain ⟨ih0, ih1, ih2⟩ := corebankref14_Grains.mono_l k
    refine ⟨?_, ?_, ?_⟩
    · intro y0 y1 y2
      unfold corebankref14_Grains.l0
      repeat' first
      | (with_reducible exact ih0 _ _ _)
      | (with_reducible exact ih1 _ _ _)
      | (with_reducible exact ih2 _ _ _ _ _)
      | (with_reducible exact corebankref01_Mul.mono _ _ _)
      | (with_reducible exact corebankref01_Scale.mono _ _ _ _)
      | (with_reducible exact LeO.refl _)
      | (with_reducible exact LeO.none _)
      | (with_reducible refine LeO.ite ?_ ?_)
      | (with_reducible refine LeO.bind ?_ (fun _ => ?_))
      | exact ih0 _ _ _
      | exact ih1 _ _ _
      | exact ih2 _ _ _ _ _
      | exact corebankref01_Mul.mono _ _ _
      | exact corebankref01_Scale.mono _ _ _ _
      | exact LeO.none _
      | refine LeO.ite ?_ ?_
      | refine LeO.bind ?_ (fun _ => ?_)
    · intro y0 y1 y2
      unfold corebankref14_Grains.j1
      repeat' first
      | (with_reducible exact ih0 _ _ _)
      | (with_reducible exact ih1 _ _ _)
      | (with_reducible exact ih2 _ _ _ _ _)
      | (with_reducible exact corebankref01_Mul.mono _ _ _)
      | (with_reducible exact corebankref01_Scale.mono _ _ _ _)
      | (with_reducible exact LeO.refl _)
      | (with_reducible exact LeO.none _)
      | (with_reducible refine LeO.ite ?_ ?_)
      | (with_reducible refine LeO.bind ?_ (fun _ => ?_))
      | exact ih0 _ _ _
      | exact ih1 _ _ _
      | exact ih2 _ _ _ _ _
      | exact corebankref01_Mul.mono _ _ _
      | exact corebankref01_Scale.mono _ _ _ _
      | exact LeO.none _
      | refine LeO.ite ?_ ?_
      | refine LeO.bind ?_ (fun _ => ?_)
    · intro y0 y1 y2 y3 y4
      unfold corebankref14_Grains.l1
      repeat' first
      | (with_reducible exact ih0 _ _ _)
      | (with_reducible exact ih1 _ _ _)
      | (with_reducible exact ih2 _ _ _ _ _)
      | (with_reducible exact corebankref01_Mul.mono _ _ _)
      | (with_reducible exact corebankref01_Scale.mono _ _ _ _)
      | (with_reducible exact LeO.refl _)
      | (with_reducible exact LeO.none _)
      | (with_reducible refine LeO.ite ?_ ?_)
      | (with_reducible refine LeO.bind ?_ (fun _ => ?_))
      | exact ih0 _ _ _
      | exact ih1 _ _ _
      | exact ih2 _ _ _ _ _
      | exact corebankref01_Mul.mono _ _ _
      | exact corebankref01_Scale.mono _ _ _ _
      | exact LeO.none _
      | refine LeO.ite ?_ ?_
      | refine LeO.bind ?_ (fun _ => ?_)
theorem corebankref14_Grains.mono : ∀ a0 a1 k, LeO (corebankref14_Grains.f k a0 a1) (corebankref14_Grains.f (k + 1) a0 a1) := by
  intro a0 a1 k
  obtain ⟨ih0, ih1, ih2⟩ := corebankref14_Grains.mono_l k
  unfold corebankref14_Grains.f
  repeat' first
      | (with_reducible exact ih0 _ _ _)
      | (with_reducible exact ih1 _ _ _)
      | (with_reducible exact ih2 _ _ _ _ _)
      | (with_reducible exact corebankref01_Mul.mono _ _ _)
      | (with_reducible exact corebankref01_Scale.mono _ _ _ _)
      | (with_reducible exact LeO.refl _)
      | (with_reducible exact LeO.none _)
      | (with_reducible refine LeO.ite ?_ ?_)
      | (with_reducible refine LeO.bind ?_ (fun _ => ?_))
      | exact ih0 _ _ _
      | exact ih1 _ _ _
      | exact ih2 _ _ _ _ _
      | exact corebankref01_Mul.mono _ _ _
      | exact corebankref01_Scale.mono _ _ _ _
      | exact LeO.none _
      | refine LeO.ite ?_ ?_
      | refine LeO.bind ?_ (fun _ => ?_)
def corebankref14_Grains.T14 : Bool × List (List Nat × List Nat) := (true, [([], []), ([], []), ([0, 1], [0, 1]), ([2], [2]), ([3], [3]), ([], []), ([], []), ([5, 6], [5, 6]), ([7], [7]), ([8], [8]), ([4, 9], [4, 9]), ([], []), ([10, 11, 10], [10, 11]), ([12], [12]), ([13], [13]), ([13], [13]), ([], []), ([16, 14, 12, 0, 1, 2, 3, 4, 5, 6, 7, 8, 9, 10, 11, 12, 13, 14, 16], [14, 16]), ([15, 17, 0, 1, 2, 3, 4, 5, 6, 7, 8, 9, 10, 11, 12, 13, 14, 15, 16, 17], [15])])
def corebankref14_Grains.B14 : List Nat := [0, 0, 3, 7, 15, 0, 0, 96, 224, 480, 1023, 0, 4095, 8191, 16383, 16383, 0, 98303, 262143]
theorem corebankref14_Grains.tab14 : rtab .any (opsOf Try.f25 14) = corebankref14_Grains.T14 := by kernel_rfl
theorem corebankref14_Grains.bits14 : waitsOk corebankref14_Grains.T14.2 corebankref14_Grains.B14 = true := by kernel_rfl
set_option maxHeartbeats 8000000 in
set_option maxRecDepth 100000 in
theorem corebankref14_Grains.calls (k : Nat) (A0 : Option Addr) (c0 : Nat) (l0 : List (S43)) (a1 : Int) (r1 : Int) (r2 : Int) (r3 : Int) (w : World) (hr0 : Kd.C k43 w A0 l0.length l0) (hc0 : l0.length ≤ c0) (h : corebankref14_Grains.f k l0 a1 = some (r1, r2, r3)) :
    Calls Try.prog 25 #[.slice A0 l0.length c0, .int .i64 a1] w fun e w' => e = .returned (.tuple #[.agg #[.int .i64 r1, .int .u64 r2], .int .i64 r3]) ∧ Below w.heap.size w w' := by
  have hu35 := Try.underlying35
  have HR0 := Aside0.mk hr0
  have HC0 := Aside0.mk hc0
  clear hr0 hc0
  have HB := Aside0.mk (Below.refl w.heap.size w)
  have H : (if (l0.length : Int) > 6 then (some (0, 0, 5)) else (corebankref14_Grains.l0 k l0 a1 0)) = some (r1, r2, r3) := h
  clear h
  by_cases c3 : (l0.length : Int) > 6
  · rw [if_pos c3] at H
    have c3b0 : decide (6 < (l0.length : Int)) = true := decide_eq_true c3
    have c3b1 : decide (6 < l0.length) = true := decide_eq_true (by omega)
    clear c3
    simp only [Option.some.injEq, Prod.mk.injEq] at H
    obtain ⟨rfl, rfl, rfl⟩ := H
    go_enter Try.func25, Try.ntmps25
    go_wp2_with (first | ((with_reducible refine gate_dst (N := 4) rfl ?_); refine box_event ?hg (N := 4) ?hd (cs := #[.int .i64 0, .int .u64 0]) (t := 35) ?hr ?_; (case hd => rfl); (case hg => rfl); (case hr => first | (go_simp; done) | (go_simp; rfl)); intro gb332 hg w4 hbox hb; have BK332 := Aside0.mk (hbox); have GW332 := ge HB hg; have GE332 := ge HB hg; replace HB := bs HB hb; clear hb hbox hg; obtain ⟨hcz5_0, hcz5_1, hfz5_0, hfz5_1⟩ := cz2 BK332))
    refine bodyPost_ret (results_ct rfl _ _ gb332 35 #[.int .i64 0, .int .u64 0] (0, 0) _ rfl (bp BK332) Try.underlying35 rfl (by kernel_rfl)) rfl ?_
    exact ⟨by first | rfl | (simp [errW_none, errW_some] <;> rfl) | (simp [*, errW_none, errW_some] <;> rfl), hq HB⟩
  · rw [if_neg c3] at H
    have c3b0 : decide (6 < (l0.length : Int)) = false := decide_eq_false c3
    have c3b1 : decide (6 < l0.length) = false := decide_eq_false (by omega)
    clear c3
    have H' := Aside0.mk H
    clear H
    go_enter Try.func25, Try.ntmps25
    go_wp2_with (first | ((with_reducible refine gate_dst (N := 4) rfl ?_); refine box_event ?hg (N := 4) ?hd (cs := #[.int .i64 0, .int .u64 0]) (t := 35) ?hr ?_; (case hd => rfl); (case hg => rfl); (case hr => first | (go_simp; done) | (go_simp; rfl)); intro gb332 hg w6 hbox hb; have BK332 := Aside0.mk (hbox); have GW332 := ge HB hg; have GE332 := ge HB hg; replace HB := bs HB hb; clear hb hbox hg))
    go_loopg [6] k (fun kq v6 w' => ∃ (x6_1 : Int) (x333000_1 : Int) (x333001_1 : Int), v6 = .int .i64 x6_1 ∧ Aside0 (corebankref14_Grains.l0 kq l0 a1 x6_1 = some (r1, r2, r3)) ∧ Aside0 (kq ≤ k) ∧ Aside0 (w'.heap[gb332]? = some (.cells #[.int .i64 x333000_1, .int .u64 x333001_1] 35 (0, 0))) ∧ Aside0 (Below w.heap.size w w'))
    case atStart => exact ⟨(0), (0), (0), (by first | rfl | (simp; done) | (simp [*]; done)), H', ⟨Nat.le_refl _⟩, ⟨bq BK332⟩, ⟨hq HB⟩⟩
    case round =>
      clear H'
      try clear c2
      try clear p2
      try clear c3
      try clear c3b0
      try clear c3b1
      try clear hcz5_0
      try clear hcz5_1
      try clear hfz5_0
      try clear hfz5_1
      obtain ⟨x6_1, x333000_1, x333001_1, rfl, HA, HK1, BK332, HB⟩ := hrel
      cases gk with
      | zero => exact absurd HA.out (by simp [corebankref14_Grains.l0])
      | succ k1 =>
        have H := HA.out
        clear HA
        simp only [corebankref14_Grains.l0] at H
        by_cases c7 : x6_1 < (l0.length : Int)
        · rw [if_pos c7] at H
          have c7b0 : decide (x6_1 < (l0.length : Int)) = true := decide_eq_true c7
          clear c7
          by_cases c8 : 0 ≤ x6_1
          · rw [if_pos c8] at H
            have c8b0 : decide (0 ≤ x6_1) = true := decide_eq_true c8
            clear c8
            by_cases c9 : ((rd_T43 l0 x6_1).f0) < 0
            · rw [if_pos c9] at H
              have c9b0 : decide (((rd_T43 l0 x6_1).f0) < 0) = true := decide_eq_true c9
              clear c9
              simp only [Option.some.injEq, Prod.mk.injEq] at H
              obtain ⟨rfl, rfl, rfl⟩ := H
              have p333 : 0 ≤ (x6_1 : Int) := of_decide_eq_true (by first | (with_reducible assumption) | assumption)
              have q333 : x6_1 < (l0.length : Int) := of_decide_eq_true (by first | (with_reducible assumption) | assumption)
              obtain ⟨ad333, e333, hx333_0, hx333_1⟩ := at_T43 HR0.out x6_1 p333 q333
              cases e333
              replace hx333_0 := (HB.out.cell (World.block_lt_of_cell? w _ hx333_0)).trans hx333_0
              replace hx333_1 := (HB.out.cell (World.block_lt_of_cell? w _ hx333_1)).trans hx333_1
              replace p333 := eq_true p333
              replace q333 := eq_true q333
              obtain ⟨hcz10_0, hcz10_1, hfz10_0, hfz10_1⟩ := cz2 BK332
              go_wp2
              refine bodyPost_ret (results_ct rfl _ _ gb332 35 #[.int .i64 0, .int .u64 0] (0, 0) _ rfl (bp BK332) Try.underlying35 rfl (by kernel_rfl)) rfl ?_
              exact ⟨by first | rfl | (simp [errW_none, errW_some] <;> rfl) | (simp [*, errW_none, errW_some] <;> rfl), hq HB⟩
            · rw [if_neg c9] at H
              have c9b0 : decide (((rd_T43 l0 x6_1).f0) < 0) = false := decide_eq_false c9
              clear c9
              by_cases c11 : ((rd_T43 l0 x6_1).f1) < 0
              · rw [if_pos c11] at H
                have c11b0 : decide (((rd_T43 l0 x6_1).f1) < 0) = true := decide_eq_true c11
                clear c11
                simp only [Option.some.injEq, Prod.mk.injEq] at H
                obtain ⟨rfl, rfl, rfl⟩ := H
                have p333 : 0 ≤ (x6_1 : Int) := of_decide_eq_true (by first | (with_reducible assumption) | assumption)
                have q333 : x6_1 < (l0.length : Int) := of_decide_eq_true (by first | (with_reducible assumption) | assumption)
                obtain ⟨ad333, e333, hx333_0, hx333_1⟩ := at_T43 HR0.out x6_1 p333 q333
                cases e333
                replace hx333_0 := (HB.out.cell (World.block_lt_of_cell? w _ hx333_0)).trans hx333_0
                replace hx333_1 := (HB.out.cell (World.block_lt_of_cell? w _ hx333_1)).trans hx333_1
                replace p333 := eq_true p333
                replace q333 := eq_true q333
                have p334 : 0 ≤ (x6_1 : Int) := of_decide_eq_true (by first | (with_reducible assumption) | assumption)
                have q334 : x6_1 < (l0.length : Int) := of_decide_eq_true (by first | (with_reducible assumption) | assumption)
                obtain ⟨ad334, e334, hx334_0, hx334_1⟩ := at_T43 HR0.out x6_1 p334 q334
                obtain rfl : ad333 = ad334 := (by injection e334)
                replace hx334_0 := (HB.out.cell (World.block_lt_of_cell? w _ hx334_0)).trans hx334_0
                replace hx334_1 := (HB.out.cell (World.block_lt_of_cell? w _ hx334_1)).trans hx334_1
                replace p334 := eq_true p334
                replace q334 := eq_true q334
                obtain ⟨hcz12_0, hcz12_1, hfz12_0, hfz12_1⟩ := cz2 BK332
                go_wp2
                refine bodyPost_ret (results_ct rfl _ _ gb332 35 #[.int .i64 0, .int .u64 0] (0, 0) _ rfl (bp BK332) Try.underlying35 rfl (by kernel_rfl)) rfl ?_
                exact ⟨by first | rfl | (simp [errW_none, errW_some] <;> rfl) | (simp [*, errW_none, errW_some] <;> rfl), hq HB⟩
              · rw [if_neg c11] at H
                have c11b0 : decide (((rd_T43 l0 x6_1).f1) < 0) = false := decide_eq_false c11
                clear c11
                by_cases c13 : ((rd_T43 l0 x6_1).f1) > 1000000
                · rw [if_pos c13] at H
                  have c13b0 : decide (1000000 < ((rd_T43 l0 x6_1).f1)) = true := decide_eq_true c13
                  clear c13
                  simp only [Option.some.injEq, Prod.mk.injEq] at H
                  obtain ⟨rfl, rfl, rfl⟩ := H
                  have p333 : 0 ≤ (x6_1 : Int) := of_decide_eq_true (by first | (with_reducible assumption) | assumption)
                  have q333 : x6_1 < (l0.length : Int) := of_decide_eq_true (by first | (with_reducible assumption) | assumption)
                  obtain ⟨ad333, e333, hx333_0, hx333_1⟩ := at_T43 HR0.out x6_1 p333 q333
                  cases e333
                  replace hx333_0 := (HB.out.cell (World.block_lt_of_cell? w _ hx333_0)).trans hx333_0
                  replace hx333_1 := (HB.out.cell (World.block_lt_of_cell? w _ hx333_1)).trans hx333_1
                  replace p333 := eq_true p333
                  replace q333 := eq_true q333
                  have p334 : 0 ≤ (x6_1 : Int) := of_decide_eq_true (by first | (with_reducible assumption) | assumption)
                  have q334 : x6_1 < (l0.length : Int) := of_decide_eq_true (by first | (with_reducible assumption) | assumption)
                  obtain ⟨ad334, e334, hx334_0, hx334_1⟩ := at_T43 HR0.out x6_1 p334 q334
                  obtain rfl : ad333 = ad334 := (by injection e334)
                  replace hx334_0 := (HB.out.cell (World.block_lt_of_cell? w _ hx334_0)).trans hx334_0
                  replace hx334_1 := (HB.out.cell (World.block_lt_of_cell? w _ hx334_1)).trans hx334_1
                  replace p334 := eq_true p334
                  replace q334 := eq_true q334
                  have p335 : 0 ≤ (x6_1 : Int) := of_decide_eq_true (by first | (with_reducible assumption) | assumption)
                  have q335 : x6_1 < (l0.length : Int) := of_decide_eq_true (by first | (with_reducible assumption) | assumption)
                  obtain ⟨ad335, e335, hx335_0, hx335_1⟩ := at_T43 HR0.out x6_1 p335 q335
                  obtain rfl : ad333 = ad335 := (by injection e335)
                  replace hx335_0 := (HB.out.cell (World.block_lt_of_cell? w _ hx335_0)).trans hx335_0
                  replace hx335_1 := (HB.out.cell (World.block_lt_of_cell? w _ hx335_1)).trans hx335_1
                  replace p335 := eq_true p335
                  replace q335 := eq_true q335
                  obtain ⟨hcz14_0, hcz14_1, hfz14_0, hfz14_1⟩ := cz2 BK332
                  go_wp2
                  refine bodyPost_ret (results_ct rfl _ _ gb332 35 #[.int .i64 0, .int .u64 0] (0, 0) _ rfl (bp BK332) Try.underlying35 rfl (by kernel_rfl)) rfl ?_
                  exact ⟨by first | rfl | (simp [errW_none, errW_some] <;> rfl) | (simp [*, errW_none, errW_some] <;> rfl), hq HB⟩
                · rw [if_neg c13] at H
                  have c13b0 : decide (1000000 < ((rd_T43 l0 x6_1).f1)) = false := decide_eq_false c13
                  clear c13
                  have H' := Aside0.mk H
                  clear H
                  have p333 : 0 ≤ (x6_1 : Int) := of_decide_eq_true (by first | (with_reducible assumption) | assumption)
                  have q333 : x6_1 < (l0.length : Int) := of_decide_eq_true (by first | (with_reducible assumption) | assumption)
                  obtain ⟨ad333, e333, hx333_0, hx333_1⟩ := at_T43 HR0.out x6_1 p333 q333
                  cases e333
                  replace hx333_0 := (HB.out.cell (World.block_lt_of_cell? w _ hx333_0)).trans hx333_0
                  replace hx333_1 := (HB.out.cell (World.block_lt_of_cell? w _ hx333_1)).trans hx333_1
                  replace p333 := eq_true p333
                  replace q333 := eq_true q333
                  have p334 : 0 ≤ (x6_1 : Int) := of_decide_eq_true (by first | (with_reducible assumption) | assumption)
                  have q334 : x6_1 < (l0.length : Int) := of_decide_eq_true (by first | (with_reducible assumption) | assumption)
                  obtain ⟨ad334, e334, hx334_0, hx334_1⟩ := at_T43 HR0.out x6_1 p334 q334
                  obtain rfl : ad333 = ad334 := (by injection e334)
                  replace hx334_0 := (HB.out.cell (World.block_lt_of_cell? w _ hx334_0)).trans hx334_0
                  replace hx334_1 := (HB.out.cell (World.block_lt_of_cell? w _ hx334_1)).trans hx334_1
                  replace p334 := eq_true p334
                  replace q334 := eq_true q334
                  have p335 : 0 ≤ (x6_1 : Int) := of_decide_eq_true (by first | (with_reducible assumption) | assumption)
                  have q335 : x6_1 < (l0.length : Int) := of_decide_eq_true (by first | (with_reducible assumption) | assumption)
                  obtain ⟨ad335, e335, hx335_0, hx335_1⟩ := at_T43 HR0.out x6_1 p335 q335
                  obtain rfl : ad333 = ad335 := (by injection e335)
                  replace hx335_0 := (HB.out.cell (World.block_lt_of_cell? w _ hx335_0)).trans hx335_0
                  replace hx335_1 := (HB.out.cell (World.block_lt_of_cell? w _ hx335_1)).trans hx335_1
                  replace p335 := eq_true p335
                  replace q335 := eq_true q335
                  go_wp2
                  go_roundg k1
                  case measure => have := HK1.out; omega
                  case rel => exact ⟨(wrap64 (x6_1 + 1)), (x333000_1), (x333001_1), (by first | rfl | (simp; done) | (simp [*]; done)), H', ⟨by have := HK1.out; omega⟩, ⟨bq BK332⟩, ⟨hq HB⟩⟩
          · rw [if_neg c8] at H
            exact absurd H (by simp)
        · rw [if_neg c7] at H
          have c7b0 : decide (x6_1 < (l0.length : Int)) = false := decide_eq_false c7
          clear c7
          have HC15 := Aside0.mk H
          clear H
          go_upto_region 8 with (fail)
          go_cut [51] (fun v51 wc => ∃ (kq : Nat) (x51_14 : Bool), v51 = .bool x51_14 ∧ Aside0 (corebankref14_Grains.j1 kq l0 a1 x51_14 = some (r1, r2, r3)) ∧ Aside0 (kq ≤ k1) ∧ Aside0 (wc.heap[gb332]? = some (.cells #[.int .i64 x333000_1, .int .u64 x333001_1] 35 (0, 0))) ∧ Aside0 (Below w.heap.size w wc))
          case first =>
            have H := HC15.out
            clear HC15
            by_cases c16 : a1 < 0
            · rw [if_pos c16] at H
              have c16b0 : decide (a1 < 0) = true := decide_eq_true c16
              clear c16
              (first | rw [c16b0] | (simp only [i64_w, i32_w]; rw [c16b0]) | skip)
              have H' := Aside0.mk H
              clear H
              go_wp2
              go_meet
              case rel => exact ⟨_, (true), (by first | rfl | (simp; done) | (simp [*]; done)), H', ⟨by have := HK1.out; first | omega | exact Nat.le_refl _⟩, ⟨bq BK332⟩, ⟨hq HB⟩⟩
            · rw [if_neg c16] at H
              have c16b0 : decide (a1 < 0) = false := decide_eq_false c16
              clear c16
              (first | rw [c16b0] | (simp only [i64_w, i32_w]; rw [c16b0]) | skip)
              have H' := Aside0.mk H
              clear H
              go_wp2
              go_meet
              case rel => exact ⟨_, (decide (a1 > 6412320000)), (by first | rfl | (simp; done) | (simp [*]; done)), H', ⟨by have := HK1.out; first | omega | exact Nat.le_refl _⟩, ⟨bq BK332⟩, ⟨hq HB⟩⟩
          case rest =>
            clear HC15
            try clear c1
            try clear c2
            try clear p2
            try clear c3
            try clear c3b0
            try clear c3b1
            try clear p3
            try clear q3
            try clear hx3
            try clear p6
            try clear c7
            try clear c7b0
            try clear c8
            try clear c8b0
            try clear c9
            try clear c9b0
            try clear c11
            try clear c11b0
            try clear c13
            try clear c13b0
            try clear c16
            try clear c16b0
            try clear hcz10_0
            try clear hcz10_1
            try clear hcz12_0
            try clear hcz12_1
            try clear hcz14_0
            try clear hcz14_1
            try clear hcz5_0
            try clear hcz5_1
            try clear hfz10_0
            try clear hfz10_1
            try clear hfz12_0
            try clear hfz12_1
            try clear hfz14_0
            try clear hfz14_1
            try clear hfz5_0
            try clear hfz5_1
            try clear hx333_0
            try clear hx333_1
            try clear hx334_0
            try clear hx334_1
            try clear hx335_0
            try clear hx335_1
            try clear p2
            try clear p333
            try clear p334
            try clear p335
            try clear q333
            try clear q334
            try clear q335
            obtain ⟨kq, x51_14, rfl, HA, HJ14, BK332, HB⟩ := hcut
            cases kq with
            | zero => exact absurd HA.out (by simp [corebankref14_Grains.j1])
            | succ kj14 =>
              have H := HA.out
              clear HA
              simp only [corebankref14_Grains.j1] at H
              by_cases c17 : x51_14 = true
              · subst c17
                have H1 : (some (0, 0, 1)) = some (r1, r2, r3) := by rw [if_pos rfl] at H; exact H
                clear H
                have H := H1
                clear H1
                simp only [Option.some.injEq, Prod.mk.injEq] at H
                obtain ⟨rfl, rfl, rfl⟩ := H
                obtain ⟨hcz18_0, hcz18_1, hfz18_0, hfz18_1⟩ := cz2 BK332
                go_wp2
                refine bodyPost_ret (results_ct rfl _ _ gb332 35 #[.int .i64 0, .int .u64 0] (0, 0) _ rfl (bp BK332) Try.underlying35 rfl (by kernel_rfl)) rfl ?_
                exact ⟨by first | rfl | (simp [errW_none, errW_some] <;> rfl) | (simp [*, errW_none, errW_some] <;> rfl), hq HB⟩
              · replace c17 := Bool.eq_false_iff.mpr c17
                subst c17
                have H1 : (corebankref14_Grains.l1 kj14 l0 a1 0 0 0) = some (r1, r2, r3) := by rw [if_neg (show ¬ (false = true) by decide)] at H; exact H
                clear H
                have H := H1
                clear H1
                have H' := Aside0.mk H
                clear H
                go_wp2_with (first | ((with_reducible refine gate_dst (N := 7) rfl ?_); refine box_event ?hg (N := 7) ?hd (cs := #[.int .i64 0, .int .u64 0]) (t := 35) ?hr ?_; (case hd => rfl); (case hg => rfl); (case hr => first | (go_simp; done) | (go_simp; rfl)); intro gb336 hg w19 hbox hb; have BK336 := Aside0.mk (hbox); have GW336 := ge HB hg; have GE336 := ge HB hg; have NB332_336 := nl BK332 hg; have NB336_332 := ng NB332_336; replace BK332 := bb BK332 hb; replace HB := bs HB hb; clear hb hbox hg; have hnb20 := NB336_332.out; have hnc20 := NB332_336.out; obtain ⟨hcz21_0, hcz21_1, hfz21_0, hfz21_1⟩ := cz2 BK336))
                go_loopg [8] kj14 (fun kq v8 w' => ∃ (x8_3 : Int) (x337000_3 : Int) (x337001_3 : Int), v8 = .int .i64 x8_3 ∧ Aside0 (corebankref14_Grains.l1 kq l0 a1 x8_3 x337000_3 x337001_3 = some (r1, r2, r3)) ∧ Aside0 (kq ≤ kj14) ∧ Aside0 (w'.heap[gb332]? = some (.cells #[.int .i64 x333000_1, .int .u64 x333001_1] 35 (0, 0))) ∧ Aside0 (w'.heap[gb336]? = some (.cells #[.int .i64 x337000_3, .int .u64 x337001_3] 35 (0, 0))) ∧ Aside0 (Below w.heap.size w w'))
                case atStart => exact ⟨(0), (0), (0), (by first | rfl | (simp; done) | (simp [*]; done)), H', ⟨Nat.le_refl _⟩, ⟨bq BK332⟩, ⟨bp BK336⟩, ⟨hq HB⟩⟩
                case round =>
                  clear H'
                  try clear c1
                  try clear c2
                  try clear p2
                  try clear c3
                  try clear c3b0
                  try clear c3b1
                  try clear p3
                  try clear q3
                  try clear hx3
                  try clear p6
                  try clear c7
                  try clear c7b0
                  try clear c8
                  try clear c8b0
                  try clear c9
                  try clear c9b0
                  try clear c11
                  try clear c11b0
                  try clear c13
                  try clear c13b0
                  try clear c16
                  try clear c16b0
                  try clear c17
                  try clear c20
                  try clear hcz10_0
                  try clear hcz10_1
                  try clear hcz12_0
                  try clear hcz12_1
                  try clear hcz14_0
                  try clear hcz14_1
                  try clear hcz18_0
                  try clear hcz18_1
                  try clear hcz21_0
                  try clear hcz21_1
                  try clear hcz5_0
                  try clear hcz5_1
                  try clear hfz10_0
                  try clear hfz10_1
                  try clear hfz12_0
                  try clear hfz12_1
                  try clear hfz14_0
                  try clear hfz14_1
                  try clear hfz18_0
                  try clear hfz18_1
                  try clear hfz21_0
                  try clear hfz21_1
                  try clear hfz5_0
                  try clear hfz5_1
                  try clear hx333_0
                  try clear hx333_1
                  try clear hx334_0
                  try clear hx334_1
                  try clear hx335_0
                  try clear hx335_1
                  try clear p2
                  try clear p3
                  try clear p333
                  try clear p334
                  try clear p335
                  try clear p6
                  try clear q3
                  try clear q333
                  try clear q334
                  try clear q335
                  obtain ⟨x8_3, x337000_3, x337001_3, rfl, HA, HK3, BK332, BK336, HB⟩ := hrel
                  cases gk with
                  | zero => exact absurd HA.out (by simp [corebankref14_Grains.l1])
                  | succ k3 =>
                    have H := HA.out
                    clear HA
                    simp only [corebankref14_Grains.l1] at H
                    by_cases c22 : x8_3 < (l0.length : Int)
                    · rw [if_pos c22] at H
                      have c22b0 : decide (x8_3 < (l0.length : Int)) = true := decide_eq_true c22
                      clear c22
                      by_cases c23 : 0 ≤ x8_3
                      · rw [if_pos c23] at H
                        have c23b0 : decide (0 ≤ x8_3) = true := decide_eq_true c23
                        clear c23
                        replace H := Option.bind_eq_some_iff.mp H
                        obtain ⟨⟨t339, t340⟩, A240, H⟩ := H
                        replace H : ((corebankref01_Scale.f k3 t339 t340 a1).bind fun bt341 => ((corebankref01_Add.f x337000_3 x337001_3 bt341.1 bt341.2.1).bind fun bt345 => (corebankref14_Grains.l1 k3 l0 a1 (wrap64 (x8_3 + 1)) bt345.1 bt345.2.1))) = some (r1, r2, r3) := H
                        have A24 := Aside0.mk A240
                        clear A240
                        replace H := Option.bind_eq_some_iff.mp H
                        obtain ⟨⟨t341, t342, t343⟩, A250, H⟩ := H
                        replace H : ((corebankref01_Add.f x337000_3 x337001_3 t341 t342).bind fun bt345 => (corebankref14_Grains.l1 k3 l0 a1 (wrap64 (x8_3 + 1)) bt345.1 bt345.2.1)) = some (r1, r2, r3) := H
                        have A25 := Aside0.mk A250
                        clear A250
                        replace H := Option.bind_eq_some_iff.mp H
                        obtain ⟨⟨t345, t346, t347⟩, A260, H⟩ := H
                        replace H : (corebankref14_Grains.l1 k3 l0 a1 (wrap64 (x8_3 + 1)) t345 t346) = some (r1, r2, r3) := H
                        have A26 := Aside0.mk A260
                        clear A260
                        have H' := Aside0.mk H
                        clear H
                        try go_wp2
                        replace BK332 := bd1 BK332
                        replace BK336 := bd1 BK336
                        replace HB := hb1 HB
                        have p337 : 0 ≤ (x8_3 : Int) := of_decide_eq_true (by first | (with_reducible assumption) | assumption)
                        have q337 : x8_3 < (l0.length : Int) := of_decide_eq_true (by first | (with_reducible assumption) | assumption)
                        obtain ⟨ad337, e337, hx337_0, hx337_1⟩ := at_T43 HR0.out x8_3 p337 q337
                        have hw337_1 := hx337_1
                        have hw337_0 := hx337_0
                        cases e337
                        replace hx337_0 := (HB.out.cell (World.block_lt_of_cell? w _ hx337_0)).trans hx337_0
                        replace hx337_1 := (HB.out.cell (World.block_lt_of_cell? w _ hx337_1)).trans hx337_1
                        replace p337 := eq_true p337
                        replace q337 := eq_true q337
                        have p338 : 0 ≤ (x8_3 : Int) := of_decide_eq_true (by first | (with_reducible assumption) | assumption)
                        have q338 : x8_3 < (l0.length : Int) := of_decide_eq_true (by first | (with_reducible assumption) | assumption)
                        obtain ⟨ad338, e338, hx338_0, hx338_1⟩ := at_T43 HR0.out x8_3 p338 q338
                        have hw338_1 := hx338_1
                        have hw338_0 := hx338_0
                        obtain rfl : ad337 = ad338 := (by injection e338)
                        replace hx338_0 := (HB.out.cell (World.block_lt_of_cell? w _ hx338_0)).trans hx338_0
                        replace hx338_1 := (HB.out.cell (World.block_lt_of_cell? w _ hx338_1)).trans hx338_1
                        replace p338 := eq_true p338
                        replace q338 := eq_true q338
                        refine start_ (n := 19) (S := fun w' => w'.cell? (ad337.add ((x8_3).toNat * 2)) = some (.int .i64 ((rd_T43 l0 x8_3).f0)) ∧ w'.cell? ⟨(ad337.add ((x8_3).toNat * 2)).block, (ad337.add ((x8_3).toNat * 2)).off + 1, none⟩ = some (.int .i64 ((rd_T43 l0 x8_3).f1)) ∧ w'.cell? (ad337.add ((x8_3).toNat * 2)) = some (.int .i64 ((rd_T43 l0 x8_3).f0)) ∧ w'.cell? ⟨(ad337.add ((x8_3).toNat * 2)).block, (ad337.add ((x8_3).toNat * 2)).off + 1, none⟩ = some (.int .i64 ((rd_T43 l0 x8_3).f1))) (ds := []) #[false, false, false, false, false, false, false, false, false, false, false, false, false, false, false, false, false, false, false] (by kernel_rfl) rfl rfl ⟨((HB.out.cell (World.block_lt_of_cell? w _ hw337_0)).trans hw337_0), ((HB.out.cell (World.block_lt_of_cell? w _ hw337_1)).trans hw337_1), ((HB.out.cell (World.block_lt_of_cell? w _ hw338_0)).trans hw338_0), ((HB.out.cell (World.block_lt_of_cell? w _ hw338_1)).trans hw338_1)⟩ (fun hHeld => ?_); refine with_tabW corebankref14_Grains.tab14 corebankref14_Grains.bits14 (fun HT_ HW_ => ?_)
                        generalize wr.drew = w27 at BK332 BK336 HB hx337_0 hx337_1 hx338_0 hx338_1 hHeld ⊢
                        refine pz (i := 0) (N := some 61) #[true, false, false, false, false, false, false, false, false, false, false, false, false, false, false, false, false, false, false] rfl rfl (any_of HT_.out (by kernel_rfl)) (fun _ _ _ h => h) ?_
                        refine pz (i := 1) (N := some 62) #[true, true, false, false, false, false, false, false, false, false, false, false, false, false, false, false, false, false, false] rfl rfl (any_of HT_.out (by kernel_rfl)) (fun _ _ _ h => h) ?_
                        refine pz (i := 2) (N := some 63) #[true, true, true, false, false, false, false, false, false, false, false, false, false, false, false, false, false, false, false] rfl rfl (any_of HT_.out (by kernel_rfl)) (fun _ _ _ h => h) ?_
                        refine pz (i := 3) (N := some 64) #[true, true, true, true, false, false, false, false, false, false, false, false, false, false, false, false, false, false, false] rfl rfl (any_of HT_.out (by kernel_rfl)) (fun _ _ _ h => h) ?_
                        refine pz (i := 5) (N := some 66) #[true, true, true, true, false, true, false, false, false, false, false, false, false, false, false, false, false, false, false] rfl rfl (any_of HT_.out (by kernel_rfl)) (fun _ _ _ h => h) ?_
                        refine pz (i := 6) (N := some 67) #[true, true, true, true, false, true, true, false, false, false, false, false, false, false, false, false, false, false, false] rfl rfl (any_of HT_.out (by kernel_rfl)) (fun _ _ _ h => h) ?_
                        refine pz (i := 7) (N := some 68) #[true, true, true, true, false, true, true, true, false, false, false, false, false, false, false, false, false, false, false] rfl rfl (any_of HT_.out (by kernel_rfl)) (fun _ _ _ h => h) ?_
                        refine pz (i := 8) (N := some 69) #[true, true, true, true, false, true, true, true, true, false, false, false, false, false, false, false, false, false, false] rfl rfl (any_of HT_.out (by kernel_rfl)) (fun _ _ _ h => h) ?_
                        refine pz (i := 11) (N := some 72) #[true, true, true, true, false, true, true, true, true, false, false, true, false, false, false, false, false, false, false] rfl rfl (any_of HT_.out (by kernel_rfl)) (fun _ _ _ h => h) ?_
                        refine tz4 (i := 4) (N := some 65) #[true, true, true, true, true, true, true, true, true, false, false, true, false, false, false, false, false, false, false] rfl rfl (take_ofW HT_.out HW_.out (by kernel_rfl)) (fun _ _ _ h => h) hHeld ?_
                        refine tz4 (i := 9) (N := some 70) #[true, true, true, true, true, true, true, true, true, true, false, true, false, false, false, false, false, false, false] rfl rfl (take_ofW HT_.out HW_.out (by kernel_rfl)) (fun _ _ _ h => h) hHeld ?_
                        refine join_ (σ := Nat) 2 #[true, true, true, true, true, true, true, true, true, true, true, true, true, true, true, true, true, false, false] (fun s_ => [(71, .agg #[.int .i64 t339, .int .u64 t340]), (73, .tuple #[.agg #[.int .i64 t341, .int .u64 t342], .int .i64 t343]), (9, .pointer (some ⟨s_, 0, none⟩)), (60, .tuple #[.agg #[.int .i64 t341, .int .u64 t342], .int .i64 t343]), (74, .agg #[.int .i64 t341, .int .u64 t342]), (75, .int .i64 t343)]) (fun s_ w' => (w'.cell? (ad337.add ((x8_3).toNat * 2)) = some (.int .i64 ((rd_T43 l0 x8_3).f0)) ∧ w'.cell? ⟨(ad337.add ((x8_3).toNat * 2)).block, (ad337.add ((x8_3).toNat * 2)).off + 1, none⟩ = some (.int .i64 ((rd_T43 l0 x8_3).f1)) ∧ w'.cell? (ad337.add ((x8_3).toNat * 2)) = some (.int .i64 ((rd_T43 l0 x8_3).f0)) ∧ w'.cell? ⟨(ad337.add ((x8_3).toNat * 2)).block, (ad337.add ((x8_3).toNat * 2)).off + 1, none⟩ = some (.int .i64 ((rd_T43 l0 x8_3).f1))) ∧ (w'.heap[gb332]? = some (.cells #[.int .i64 x333000_1, .int .u64 x333001_1] 35 (0, 0))) ∧ (w'.heap[gb336]? = some (.cells #[.int .i64 x337000_3, .int .u64 x337001_3] 35 (0, 0))) ∧ (w'.heap[s_]? = some (.cells #[.int .i64 0, .int .u64 0] 35 (0, 0))) ∧ (w.heap.size ≤ s_) ∧ (w.heap.size ≤ s_) ∧ (gb332 ≠ s_) ∧ (s_ ≠ gb332) ∧ (gb336 ≠ s_) ∧ (s_ ≠ gb336) ∧ (Below w.heap.size w w')) ?_ ?_
                        rotate_left
                        · intro hCont
                          refine two_ (i := 10) (j := 16) (Ni := some 71) (Nj := some 9) #[true, true, true, true, true, true, true, true, true, true, true, true, false, false, false, false, false, false, false] #[true, true, true, true, true, true, true, true, true, true, false, true, false, false, false, false, true, false, false] rfl rfl rfl rfl (two_of HT_.out (by kernel_rfl)) (by decide) (by decide) (fun K hK => ?_) (fun K hK => ?_)
                          · skip
                            refine goes_ Try.func47 (by kernel_rfl) rfl #[.int .i64 ((rd_T43 l0 x8_3).f0), .int .i64 ((rd_T43 l0 x8_3).f1)] (by rfl) rfl rfl zm ?_
                            with_reducible refine (corebankref01_Mul.calls k3 ((rd_T43 l0 x8_3).f0) ((rd_T43 l0 x8_3).f1) t339 t340 _ A24.out).mono ?_
                            rintro e w28 ⟨rfl, hb⟩
                            refine ⟨_, rfl, ?_⟩
                            replace BK332 := bb BK332 hb
                            replace BK336 := bb BK336 hb
                            replace HB := bs HB hb
                            (try clear hb)
                            (try clear hb2)
                            (try clear hk)
                            (try clear hi)
                            refine hK.out _ _ ⟨((HB.out.cell (World.block_lt_of_cell? w _ hw337_0)).trans hw337_0), ((HB.out.cell (World.block_lt_of_cell? w _ hw337_1)).trans hw337_1), ((HB.out.cell (World.block_lt_of_cell? w _ hw338_0)).trans hw338_0), ((HB.out.cell (World.block_lt_of_cell? w _ hw338_1)).trans hw338_1)⟩ (fun hHeld => ?_)
                            clear hK K
                            refine norm_ (a' := ?_) ?_ ?_
                            rotate_left
                            · show Act.put _ (some 71) _ = _
                              simp only [Act.put, List.setIfInBounds_toArray, List.set_cons_zero, List.set_cons_succ, i64_w, i32_w]
                              rfl
                            refine two_ (i := 12) (j := 16) (Ni := some 73) (Nj := some 9) #[true, true, true, true, true, true, true, true, true, true, true, true, true, false, false, false, false, false, false] #[true, true, true, true, true, true, true, true, true, true, true, true, false, false, false, false, true, false, false] rfl rfl rfl rfl (two_of HT_.out (by kernel_rfl)) (by decide) (by decide) (fun K hK => ?_) (fun K hK => ?_)
                            · skip
                              refine goes_ Try.func46 (by kernel_rfl) rfl #[.agg #[.int .i64 t339, .int .u64 t340], .int .i64 a1] (by rfl) rfl rfl zm ?_
                              with_reducible refine (corebankref01_Scale.calls k3 t339 t340 a1 t341 t342 t343 _ A25.out).mono ?_
                              rintro e w29 ⟨rfl, hb⟩
                              refine ⟨_, rfl, ?_⟩
                              replace BK332 := bb BK332 hb
                              replace BK336 := bb BK336 hb
                              replace HB := bs HB hb
                              (try clear hb)
                              (try clear hb2)
                              (try clear hk)
                              (try clear hi)
                              refine hK.out _ _ ⟨((HB.out.cell (World.block_lt_of_cell? w _ hw337_0)).trans hw337_0), ((HB.out.cell (World.block_lt_of_cell? w _ hw337_1)).trans hw337_1), ((HB.out.cell (World.block_lt_of_cell? w _ hw338_0)).trans hw338_0), ((HB.out.cell (World.block_lt_of_cell? w _ hw338_1)).trans hw338_1)⟩ (fun hHeld => ?_)
                              clear hK K
                              refine norm_ (a' := ?_) ?_ ?_
                              rotate_left
                              · show Act.put _ (some 73) _ = _
                                simp only [Act.put, List.setIfInBounds_toArray, List.set_cons_zero, List.set_cons_succ, i64_w, i32_w]
                                rfl
                              refine pz (i := 13) (N := some 60) #[true, true, true, true, true, true, true, true, true, true, true, true, true, true, false, false, false, false, false] rfl rfl (any_of HT_.out (by kernel_rfl)) (fun _ _ _ h => h) ?_
                              refine pz (i := 14) (N := some 74) #[true, true, true, true, true, true, true, true, true, true, true, true, true, true, true, false, false, false, false] rfl rfl (any_of HT_.out (by kernel_rfl)) (fun _ _ _ h => h) ?_
                              refine pz (i := 15) (N := some 75) #[true, true, true, true, true, true, true, true, true, true, true, true, true, true, true, true, false, false, false] rfl rfl (any_of HT_.out (by kernel_rfl)) (fun _ _ _ h => h) ?_
                              refine one_ (i := 16) (N := some 9) #[true, true, true, true, true, true, true, true, true, true, true, true, true, true, true, true, true, false, false] rfl rfl (one_of HT_.out (by kernel_rfl)) (by decide) (fun K hK => ?_)
                              refine box_step ?hg (N := 9) ?hd (cs := #[.int .i64 0, .int .u64 0]) (t := 35) ?hr ?_; (case hd => rfl); (case hg => rfl); (case hr => first | (go_simp; done) | (go_simp; rfl))
                              intro gb344 hg w30 hbox hb
                              have BK344 := Aside0.mk (hbox)
                              have GW344 := ge HB hg
                              have GE344 := ge HB hg
                              have NB332_344 := nl BK332 hg
                              have NB344_332 := ng NB332_344
                              have NB336_344 := nl BK336 hg
                              have NB344_336 := ng NB336_344
                              replace BK332 := bb BK332 hb
                              replace BK336 := bb BK336 hb
                              replace HB := bs HB hb
                              clear hb hbox hg
                              refine hK.out _ _ ⟨((HB.out.cell (World.block_lt_of_cell? w _ hw337_0)).trans hw337_0), ((HB.out.cell (World.block_lt_of_cell? w _ hw337_1)).trans hw337_1), ((HB.out.cell (World.block_lt_of_cell? w _ hw338_0)).trans hw338_0), ((HB.out.cell (World.block_lt_of_cell? w _ hw338_1)).trans hw338_1)⟩ (fun hHeld => ?_)
                              clear hK K
                              refine norm_ (a' := ?_) ?_ ?_
                              rotate_left
                              · show Act.put _ (some 9) _ = _
                                simp only [Act.put, List.setIfInBounds_toArray, List.set_cons_zero, List.set_cons_succ, i64_w, i32_w]
                                rfl
                              exact norm_ (by simp only [putAll, Act.put, List.setIfInBounds_toArray, List.set_cons_zero, List.set_cons_succ]) (hCont (gb344) _ ⟨hHeld, (bq BK332), (bq BK336), (bq BK344), GW344.out, GE344.out, NB332_344.out, NB344_332.out, NB336_344.out, NB344_336.out, (hq HB)⟩)
                            · skip
                              refine box_step ?hg (N := 9) ?hd (cs := #[.int .i64 0, .int .u64 0]) (t := 35) ?hr ?_; (case hd => rfl); (case hg => rfl); (case hr => first | (go_simp; done) | (go_simp; rfl))
                              intro gb344 hg w29 hbox hb
                              have BK344 := Aside0.mk (hbox)
                              have GW344 := ge HB hg
                              have GE344 := ge HB hg
                              have NB332_344 := nl BK332 hg
                              have NB344_332 := ng NB332_344
                              have NB336_344 := nl BK336 hg
                              have NB344_336 := ng NB336_344
                              replace BK332 := bb BK332 hb
                              replace BK336 := bb BK336 hb
                              replace HB := bs HB hb
                              clear hb hbox hg
                              refine hK.out _ _ ⟨((HB.out.cell (World.block_lt_of_cell? w _ hw337_0)).trans hw337_0), ((HB.out.cell (World.block_lt_of_cell? w _ hw337_1)).trans hw337_1), ((HB.out.cell (World.block_lt_of_cell? w _ hw338_0)).trans hw338_0), ((HB.out.cell (World.block_lt_of_cell? w _ hw338_1)).trans hw338_1)⟩ (fun hHeld => ?_)
                              clear hK K
                              refine norm_ (a' := ?_) ?_ ?_
                              rotate_left
                              · show Act.put _ (some 9) _ = _
                                simp only [Act.put, List.setIfInBounds_toArray, List.set_cons_zero, List.set_cons_succ, i64_w, i32_w]
                                rfl
                              refine one_ (i := 12) (N := some 73) #[true, true, true, true, true, true, true, true, true, true, true, true, true, false, false, false, true, false, false] rfl rfl (one_of HT_.out (by kernel_rfl)) (by decide) (fun K hK => ?_)
                              refine goes_ Try.func46 (by kernel_rfl) rfl #[.agg #[.int .i64 t339, .int .u64 t340], .int .i64 a1] (by rfl) rfl rfl zm ?_
                              with_reducible refine (corebankref01_Scale.calls k3 t339 t340 a1 t341 t342 t343 _ A25.out).mono ?_
                              rintro e w30 ⟨rfl, hb⟩
                              refine ⟨_, rfl, ?_⟩
                              replace BK332 := bb BK332 hb
                              replace BK336 := bb BK336 hb
                              replace BK344 := bb BK344 hb
                              replace HB := bs HB hb
                              (try clear hb)
                              (try clear hb2)
                              (try clear hk)
                              (try clear hi)
                              refine hK.out _ _ ⟨((HB.out.cell (World.block_lt_of_cell? w _ hw337_0)).trans hw337_0), ((HB.out.cell (World.block_lt_of_cell? w _ hw337_1)).trans hw337_1), ((HB.out.cell (World.block_lt_of_cell? w _ hw338_0)).trans hw338_0), ((HB.out.cell (World.block_lt_of_cell? w _ hw338_1)).trans hw338_1)⟩ (fun hHeld => ?_)
                              clear hK K
                              refine norm_ (a' := ?_) ?_ ?_
                              rotate_left
                              · show Act.put _ (some 73) _ = _
                                simp only [Act.put, List.setIfInBounds_toArray, List.set_cons_zero, List.set_cons_succ, i64_w, i32_w]
                                rfl
                              refine pz (i := 13) (N := some 60) #[true, true, true, true, true, true, true, true, true, true, true, true, true, true, false, false, true, false, false] rfl rfl (any_of HT_.out (by kernel_rfl)) (fun _ _ _ h => h) ?_
                              refine pz (i := 14) (N := some 74) #[true, true, true, true, true, true, true, true, true, true, true, true, true, true, true, false, true, false, false] rfl rfl (any_of HT_.out (by kernel_rfl)) (fun _ _ _ h => h) ?_
                              refine pz (i := 15) (N := some 75) #[true, true, true, true, true, true, true, true, true, true, true, true, true, true, true, true, true, false, false] rfl rfl (any_of HT_.out (by kernel_rfl)) (fun _ _ _ h => h) ?_
                              exact norm_ (by simp only [putAll, Act.put, List.setIfInBounds_toArray, List.set_cons_zero, List.set_cons_succ]) (hCont (gb344) _ ⟨hHeld, (bq BK332), (bq BK336), (bq BK344), GW344.out, GE344.out, NB332_344.out, NB344_332.out, NB336_344.out, NB344_336.out, (hq HB)⟩)
                          · skip
                            refine box_step ?hg (N := 9) ?hd (cs := #[.int .i64 0, .int .u64 0]) (t := 35) ?hr ?_; (case hd => rfl); (case hg => rfl); (case hr => first | (go_simp; done) | (go_simp; rfl))
                            intro gb344 hg w28 hbox hb
                            have BK344 := Aside0.mk (hbox)
                            have GW344 := ge HB hg
                            have GE344 := ge HB hg
                            have NB332_344 := nl BK332 hg
                            have NB344_332 := ng NB332_344
                            have NB336_344 := nl BK336 hg
                            have NB344_336 := ng NB336_344
                            replace BK332 := bb BK332 hb
                            replace BK336 := bb BK336 hb
                            replace HB := bs HB hb
                            clear hb hbox hg
                            refine hK.out _ _ ⟨((HB.out.cell (World.block_lt_of_cell? w _ hw337_0)).trans hw337_0), ((HB.out.cell (World.block_lt_of_cell? w _ hw337_1)).trans hw337_1), ((HB.out.cell (World.block_lt_of_cell? w _ hw338_0)).trans hw338_0), ((HB.out.cell (World.block_lt_of_cell? w _ hw338_1)).trans hw338_1)⟩ (fun hHeld => ?_)
                            clear hK K
                            refine norm_ (a' := ?_) ?_ ?_
                            rotate_left
                            · show Act.put _ (some 9) _ = _
                              simp only [Act.put, List.setIfInBounds_toArray, List.set_cons_zero, List.set_cons_succ, i64_w, i32_w]
                              rfl
                            refine one_ (i := 10) (N := some 71) #[true, true, true, true, true, true, true, true, true, true, true, true, false, false, false, false, true, false, false] rfl rfl (one_of HT_.out (by kernel_rfl)) (by decide) (fun K hK => ?_)
                            refine goes_ Try.func47 (by kernel_rfl) rfl #[.int .i64 ((rd_T43 l0 x8_3).f0), .int .i64 ((rd_T43 l0 x8_3).f1)] (by rfl) rfl rfl zm ?_
                            with_reducible refine (corebankref01_Mul.calls k3 ((rd_T43 l0 x8_3).f0) ((rd_T43 l0 x8_3).f1) t339 t340 _ A24.out).mono ?_
                            rintro e w29 ⟨rfl, hb⟩
                            refine ⟨_, rfl, ?_⟩
                            replace BK332 := bb BK332 hb
                            replace BK336 := bb BK336 hb
                            replace BK344 := bb BK344 hb
                            replace HB := bs HB hb
                            (try clear hb)
                            (try clear hb2)
                            (try clear hk)
                            (try clear hi)
                            refine hK.out _ _ ⟨((HB.out.cell (World.block_lt_of_cell? w _ hw337_0)).trans hw337_0), ((HB.out.cell (World.block_lt_of_cell? w _ hw337_1)).trans hw337_1), ((HB.out.cell (World.block_lt_of_cell? w _ hw338_0)).trans hw338_0), ((HB.out.cell (World.block_lt_of_cell? w _ hw338_1)).trans hw338_1)⟩ (fun hHeld => ?_)
                            clear hK K
                            refine norm_ (a' := ?_) ?_ ?_
                            rotate_left
                            · show Act.put _ (some 71) _ = _
                              simp only [Act.put, List.setIfInBounds_toArray, List.set_cons_zero, List.set_cons_succ, i64_w, i32_w]
                              rfl
                            refine one_ (i := 12) (N := some 73) #[true, true, true, true, true, true, true, true, true, true, true, true, true, false, false, false, true, false, false] rfl rfl (one_of HT_.out (by kernel_rfl)) (by decide) (fun K hK => ?_)
                            refine goes_ Try.func46 (by kernel_rfl) rfl #[.agg #[.int .i64 t339, .int .u64 t340], .int .i64 a1] (by rfl) rfl rfl zm ?_
                            with_reducible refine (corebankref01_Scale.calls k3 t339 t340 a1 t341 t342 t343 _ A25.out).mono ?_
                            rintro e w30 ⟨rfl, hb⟩
                            refine ⟨_, rfl, ?_⟩
                            replace BK332 := bb BK332 hb
                            replace BK336 := bb BK336 hb
                            replace BK344 := bb BK344 hb
                            replace HB := bs HB hb
                            (try clear hb)
                            (try clear hb2)
                            (try clear hk)
                            (try clear hi)
                            refine hK.out _ _ ⟨((HB.out.cell (World.block_lt_of_cell? w _ hw337_0)).trans hw337_0), ((HB.out.cell (World.block_lt_of_cell? w _ hw337_1)).trans hw337_1), ((HB.out.cell (World.block_lt_of_cell? w _ hw338_0)).trans hw338_0), ((HB.out.cell (World.block_lt_of_cell? w _ hw338_1)).trans hw338_1)⟩ (fun hHeld => ?_)
                            clear hK K
                            refine norm_ (a' := ?_) ?_ ?_
                            rotate_left
                            · show Act.put _ (some 73) _ = _
                              simp only [Act.put, List.setIfInBounds_toArray, List.set_cons_zero, List.set_cons_succ, i64_w, i32_w]
                              rfl
                            refine pz (i := 13) (N := some 60) #[true, true, true, true, true, true, true, true, true, true, true, true, true, true, false, false, true, false, false] rfl rfl (any_of HT_.out (by kernel_rfl)) (fun _ _ _ h => h) ?_
                            refine pz (i := 14) (N := some 74) #[true, true, true, true, true, true, true, true, true, true, true, true, true, true, true, false, true, false, false] rfl rfl (any_of HT_.out (by kernel_rfl)) (fun _ _ _ h => h) ?_
                            refine pz (i := 15) (N := some 75) #[true, true, true, true, true, true, true, true, true, true, true, true, true, true, true, true, true, false, false] rfl rfl (any_of HT_.out (by kernel_rfl)) (fun _ _ _ h => h) ?_
                            exact norm_ (by simp only [putAll, Act.put, List.setIfInBounds_toArray, List.set_cons_zero, List.set_cons_succ]) (hCont (gb344) _ ⟨hHeld, (bq BK332), (bq BK336), (bq BK344), GW344.out, GE344.out, NB332_344.out, NB344_332.out, NB336_344.out, NB344_336.out, (hq HB)⟩)
                        rintro gb344 w31 ⟨hS_, h0_, h1_, h2_, h3_, h4_, h5_, h6_, h7_, h8_, h9_⟩
                        have BK344 : Aside0 (w31.heap[gb344]? = some (.cells #[.int .i64 0, .int .u64 0] 35 (0, 0))) := ⟨h2_⟩
                        have GW344 : Aside0 (w.heap.size ≤ gb344) := ⟨h3_⟩
                        have GE344 : Aside0 (w.heap.size ≤ gb344) := ⟨h4_⟩
                        have NB332_344 : Aside0 (gb332 ≠ gb344) := ⟨h5_⟩
                        have NB344_332 : Aside0 (gb344 ≠ gb332) := ⟨h6_⟩
                        have NB336_344 : Aside0 (gb336 ≠ gb344) := ⟨h7_⟩
                        have NB344_336 : Aside0 (gb344 ≠ gb336) := ⟨h8_⟩
                        replace BK332 : Aside0 (w31.heap[gb332]? = some (.cells #[.int .i64 x333000_1, .int .u64 x333001_1] 35 (0, 0))) := ⟨h0_⟩
                        replace BK336 : Aside0 (w31.heap[gb336]? = some (.cells #[.int .i64 x337000_3, .int .u64 x337001_3] 35 (0, 0))) := ⟨h1_⟩
                        replace HB : Aside0 (Below w.heap.size w w31) := ⟨h9_⟩
                        clear h0_ h1_ h2_ h3_ h4_ h5_ h6_ h7_ h8_ h9_
                        have hHeld : w31.cell? (ad337.add ((x8_3).toNat * 2)) = some (.int .i64 ((rd_T43 l0 x8_3).f0)) ∧ w31.cell? ⟨(ad337.add ((x8_3).toNat * 2)).block, (ad337.add ((x8_3).toNat * 2)).off + 1, none⟩ = some (.int .i64 ((rd_T43 l0 x8_3).f1)) ∧ w31.cell? (ad337.add ((x8_3).toNat * 2)) = some (.int .i64 ((rd_T43 l0 x8_3).f0)) ∧ w31.cell? ⟨(ad337.add ((x8_3).toNat * 2)).block, (ad337.add ((x8_3).toNat * 2)).off + 1, none⟩ = some (.int .i64 ((rd_T43 l0 x8_3).f1)) := hS_
                        refine norm_ (a' := ?_) ?_ ?_
                        rotate_left
                        · simp only [putAll, Act.put, List.setIfInBounds_toArray, List.set_cons_zero, List.set_cons_succ]
                          rfl
                        refine one_ (i := 17) (N := none) #[true, true, true, true, true, true, true, true, true, true, true, true, true, true, true, true, true, true, false] rfl rfl (one_of HT_.out (by kernel_rfl)) (by decide) (fun K hK => ?_)
                        have hs32 : w31.cell? ⟨gb344, 0, none⟩ = some (.int .i64 0) := (blk_cell BK344.out 0).trans rfl
                        have hfs32 := blk_frozen BK344.out 0
                        have hns32_0 := NB332_344.out
                        have hns32_1 := NB336_344.out
                        have hms32_0 := NB344_332.out
                        have hms32_1 := NB344_336.out
                        have hs33 : w31.cell? ⟨gb344, 1, none⟩ = some (.int .u64 0) := (blk_cell BK344.out 1).trans rfl
                        have hfs33 := blk_frozen BK344.out 1
                        have hns33_0 := NB332_344.out
                        have hns33_1 := NB336_344.out
                        have hms33_0 := NB344_332.out
                        have hms33_1 := NB344_336.out
                        refine skip_ (w1 := ?_) (by rfl) rfl ?_ ?_
                        rotate_left
                        · go_simp
                          rfl
                        refine hK.out _ _ ⟨((cell_far (p := ⟨gb344, _, none⟩) (by first | exact Nat.ne_of_lt (Nat.lt_of_lt_of_le (by have := World.block_lt_of_cell? _ _ hw337_0; first | rwa [add_block] at this | exact this) GW344.out) | (rw [add_block]; exact Nat.ne_of_lt (Nat.lt_of_lt_of_le (by have := World.block_lt_of_cell? _ _ hw337_0; first | rwa [add_block] at this | exact this) GW344.out)) | (show (Addr.add _ _).block ≠ _; rw [add_block]; exact Nat.ne_of_lt (Nat.lt_of_lt_of_le (by have := World.block_lt_of_cell? _ _ hw337_0; first | rwa [add_block] at this | exact this) GW344.out)) | (dsimp only; exact Nat.ne_of_lt (Nat.lt_of_lt_of_le (by have := World.block_lt_of_cell? _ _ hw337_0; first | rwa [add_block] at this | exact this) GW344.out))) _).trans (((cell_far (p := ⟨gb344, _, none⟩) (by first | exact Nat.ne_of_lt (Nat.lt_of_lt_of_le (by have := World.block_lt_of_cell? _ _ hw337_0; first | rwa [add_block] at this | exact this) GW344.out) | (rw [add_block]; exact Nat.ne_of_lt (Nat.lt_of_lt_of_le (by have := World.block_lt_of_cell? _ _ hw337_0; first | rwa [add_block] at this | exact this) GW344.out)) | (show (Addr.add _ _).block ≠ _; rw [add_block]; exact Nat.ne_of_lt (Nat.lt_of_lt_of_le (by have := World.block_lt_of_cell? _ _ hw337_0; first | rwa [add_block] at this | exact this) GW344.out)) | (dsimp only; exact Nat.ne_of_lt (Nat.lt_of_lt_of_le (by have := World.block_lt_of_cell? _ _ hw337_0; first | rwa [add_block] at this | exact this) GW344.out))) _).trans (hHeld.1)))), ((cell_far (p := ⟨gb344, _, none⟩) (by first | exact Nat.ne_of_lt (Nat.lt_of_lt_of_le (by have := World.block_lt_of_cell? _ _ hw337_1; first | rwa [add_block] at this | exact this) GW344.out) | (rw [add_block]; exact Nat.ne_of_lt (Nat.lt_of_lt_of_le (by have := World.block_lt_of_cell? _ _ hw337_1; first | rwa [add_block] at this | exact this) GW344.out)) | (show (Addr.add _ _).block ≠ _; rw [add_block]; exact Nat.ne_of_lt (Nat.lt_of_lt_of_le (by have := World.block_lt_of_cell? _ _ hw337_1; first | rwa [add_block] at this | exact this) GW344.out)) | (dsimp only; exact Nat.ne_of_lt (Nat.lt_of_lt_of_le (by have := World.block_lt_of_cell? _ _ hw337_1; first | rwa [add_block] at this | exact this) GW344.out))) _).trans (((cell_far (p := ⟨gb344, _, none⟩) (by first | exact Nat.ne_of_lt (Nat.lt_of_lt_of_le (by have := World.block_lt_of_cell? _ _ hw337_1; first | rwa [add_block] at this | exact this) GW344.out) | (rw [add_block]; exact Nat.ne_of_lt (Nat.lt_of_lt_of_le (by have := World.block_lt_of_cell? _ _ hw337_1; first | rwa [add_block] at this | exact this) GW344.out)) | (show (Addr.add _ _).block ≠ _; rw [add_block]; exact Nat.ne_of_lt (Nat.lt_of_lt_of_le (by have := World.block_lt_of_cell? _ _ hw337_1; first | rwa [add_block] at this | exact this) GW344.out)) | (dsimp only; exact Nat.ne_of_lt (Nat.lt_of_lt_of_le (by have := World.block_lt_of_cell? _ _ hw337_1; first | rwa [add_block] at this | exact this) GW344.out))) _).trans (hHeld.2.1)))), ((cell_far (p := ⟨gb344, _, none⟩) (by first | exact Nat.ne_of_lt (Nat.lt_of_lt_of_le (by have := World.block_lt_of_cell? _ _ hw338_0; first | rwa [add_block] at this | exact this) GW344.out) | (rw [add_block]; exact Nat.ne_of_lt (Nat.lt_of_lt_of_le (by have := World.block_lt_of_cell? _ _ hw338_0; first | rwa [add_block] at this | exact this) GW344.out)) | (show (Addr.add _ _).block ≠ _; rw [add_block]; exact Nat.ne_of_lt (Nat.lt_of_lt_of_le (by have := World.block_lt_of_cell? _ _ hw338_0; first | rwa [add_block] at this | exact this) GW344.out)) | (dsimp only; exact Nat.ne_of_lt (Nat.lt_of_lt_of_le (by have := World.block_lt_of_cell? _ _ hw338_0; first | rwa [add_block] at this | exact this) GW344.out))) _).trans (((cell_far (p := ⟨gb344, _, none⟩) (by first | exact Nat.ne_of_lt (Nat.lt_of_lt_of_le (by have := World.block_lt_of_cell? _ _ hw338_0; first | rwa [add_block] at this | exact this) GW344.out) | (rw [add_block]; exact Nat.ne_of_lt (Nat.lt_of_lt_of_le (by have := World.block_lt_of_cell? _ _ hw338_0; first | rwa [add_block] at this | exact this) GW344.out)) | (show (Addr.add _ _).block ≠ _; rw [add_block]; exact Nat.ne_of_lt (Nat.lt_of_lt_of_le (by have := World.block_lt_of_cell? _ _ hw338_0; first | rwa [add_block] at this | exact this) GW344.out)) | (dsimp only; exact Nat.ne_of_lt (Nat.lt_of_lt_of_le (by have := World.block_lt_of_cell? _ _ hw338_0; first | rwa [add_block] at this | exact this) GW344.out))) _).trans (hHeld.2.2.1)))), ((cell_far (p := ⟨gb344, _, none⟩) (by first | exact Nat.ne_of_lt (Nat.lt_of_lt_of_le (by have := World.block_lt_of_cell? _ _ hw338_1; first | rwa [add_block] at this | exact this) GW344.out) | (rw [add_block]; exact Nat.ne_of_lt (Nat.lt_of_lt_of_le (by have := World.block_lt_of_cell? _ _ hw338_1; first | rwa [add_block] at this | exact this) GW344.out)) | (show (Addr.add _ _).block ≠ _; rw [add_block]; exact Nat.ne_of_lt (Nat.lt_of_lt_of_le (by have := World.block_lt_of_cell? _ _ hw338_1; first | rwa [add_block] at this | exact this) GW344.out)) | (dsimp only; exact Nat.ne_of_lt (Nat.lt_of_lt_of_le (by have := World.block_lt_of_cell? _ _ hw338_1; first | rwa [add_block] at this | exact this) GW344.out))) _).trans (((cell_far (p := ⟨gb344, _, none⟩) (by first | exact Nat.ne_of_lt (Nat.lt_of_lt_of_le (by have := World.block_lt_of_cell? _ _ hw338_1; first | rwa [add_block] at this | exact this) GW344.out) | (rw [add_block]; exact Nat.ne_of_lt (Nat.lt_of_lt_of_le (by have := World.block_lt_of_cell? _ _ hw338_1; first | rwa [add_block] at this | exact this) GW344.out)) | (show (Addr.add _ _).block ≠ _; rw [add_block]; exact Nat.ne_of_lt (Nat.lt_of_lt_of_le (by have := World.block_lt_of_cell? _ _ hw338_1; first | rwa [add_block] at this | exact this) GW344.out)) | (dsimp only; exact Nat.ne_of_lt (Nat.lt_of_lt_of_le (by have := World.block_lt_of_cell? _ _ hw338_1; first | rwa [add_block] at this | exact this) GW344.out))) _).trans (hHeld.2.2.2))))⟩ (fun hHeld => ?_)
                        clear hK K
                        refine pz (i := 18) (N := some 10) #[true, true, true, true, true, true, true, true, true, true, true, true, true, true, true, true, true, true, true] rfl rfl (any_of HT_.out (by kernel_rfl)) (fun _ _ _ h => h) ?_
                        refine done_ (done_of HT_.out (by kernel_rfl)) ?_
                        have hnb34 := NB336_332.out
                        have hnc34 := NB332_336.out
                        have hnb35 := NB336_344.out
                        have hnc35 := NB344_336.out
                        obtain ⟨hcz36_0, hcz36_1, hfz36_0, hfz36_1⟩ := cz2 BK336
                        have hnb37 := NB344_332.out
                        have hnc37 := NB332_344.out
                        obtain ⟨hcz38_0, hcz38_1, hfz38_0, hfz38_1⟩ := cz2 BK344
                        try go_wp2_with (first | ((with_reducible refine gate_callee (f := 28) rfl ?_); refine goesL_ (some 79) rfl rfl Try.func28 (by kernel_rfl) rfl #[.agg #[.int .i64 x337000_3, .int .u64 x337001_3], .agg #[.int .i64 t341, .int .u64 t342]] rfl zm ?_; (with_reducible refine (corebankref01_Add.calls x337000_3 x337001_3 t341 t342 t345 t346 t347 _ A26.out).mono ?_); rintro e w39 ⟨rfl, hb⟩; refine ⟨_, rfl, ?_⟩; replace BK332 := bb BK332 hb; replace BK336 := bb BK336 hb; replace BK344 := bpb BK344 hb #[.int .i64 t341, .int .u64 t342]; replace HB := bs HB hb; (try clear hb); (try clear hb2); (try clear hk); (try clear hi)) | ((with_reducible refine gate_dst (N := 11) rfl ?_); refine box_event ?hg (N := 11) ?hd (cs := #[.int .i64 0, .int .u64 0]) (t := 35) ?hr ?_; (case hd => rfl); (case hg => rfl); (case hr => first | (go_simp; done) | (go_simp; rfl)); intro gb348 hg w40 hbox hb; have BK348 := Aside0.mk (hbox); have GW348 := ge HB hg; have GE348 := ge HB hg; have NB332_348 := nl BK332 hg; have NB348_332 := ng NB332_348; have NB336_348 := nl BK336 hg; have NB348_336 := ng NB336_348; have NB344_348 := nl BK344 hg; have NB348_344 := ng NB344_348; replace BK332 := bb BK332 hb; replace BK336 := bb BK336 hb; replace BK344 := bb BK344 hb; replace HB := bs HB hb; clear hb hbox hg; have hnb41 := NB348_332.out; have hnc41 := NB332_348.out; have hnb42 := NB348_336.out; have hnc42 := NB336_348.out; have hnb43 := NB348_344.out; have hnc43 := NB344_348.out; obtain ⟨hcz44_0, hcz44_1, hfz44_0, hfz44_1⟩ := cz2 BK348; obtain ⟨hcz45_0, hcz45_1, hfz45_0, hfz45_1⟩ := cz2 BK336))
                        go_roundg k3
                        case measure => have := HK1.out; have := HJ14.out; have := HK3.out; omega
                        case rel => exact ⟨(wrap64 (x8_3 + 1)), (t345), (t346), (by first | rfl | (simp; done) | (simp [*]; done)), H', ⟨by have := HK1.out; have := HJ14.out; have := HK3.out; omega⟩, ⟨bq BK332⟩, ⟨bp BK336⟩, ⟨hq HB⟩⟩
                      · rw [if_neg c23] at H
                        exact absurd H (by simp)
                    · rw [if_neg c22] at H
                      have c22b0 : decide (x8_3 < (l0.length : Int)) = false := decide_eq_false c22
                      clear c22
                      simp only [Option.some.injEq, Prod.mk.injEq] at H
                      obtain ⟨rfl, rfl, rfl⟩ := H
                      have hnb46 := NB336_332.out
                      have hnc46 := NB332_336.out
                      obtain ⟨hcz47_0, hcz47_1, hfz47_0, hfz47_1⟩ := cz2 BK336
                      obtain ⟨hcz48_0, hcz48_1, hfz48_0, hfz48_1⟩ := cz2 BK332
                      go_wp2
                      refine bodyPost_ret (results_ct rfl _ _ gb332 35 #[.int .i64 x337000_3, .int .u64 x337001_3] (0, 0) _ rfl (bp BK332) Try.underlying35 rfl (by kernel_rfl)) rfl ?_
                      exact ⟨by first | rfl | (simp [errW_none, errW_some] <;> rfl) | (simp [*, errW_none, errW_some] <;> rfl), hq HB⟩

end Go.Proofs.Ytlmabdiodopidaa.P
