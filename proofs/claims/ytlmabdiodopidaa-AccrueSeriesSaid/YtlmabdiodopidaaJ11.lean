/- Texts of this seat, joined: Px29, Px3, Px7, Px8, Px9, RDay, RSer, Few, PWt, PAt. Lemmas for the claim's theorem. -/
import Derived.Deep.RegionHeld3
import Derived.Test.YtlmabdiodopidaaJ10
section
set_option linter.unusedVariables false
set_option linter.unusedSimpArgs false
namespace Go.Proofs.Ytlmabdiodopidaa.P
open Go.Proofs.Ytlmabdiodopidaa.G
attribute [local go_sem high] un_not64 un_noti run_add64
open Go.RowKit Go.Proofs.YtlmabdiodopidaaW.PrintWords Go.Proofs.YtlmabdiodopidaaW.PrintLast Go.Proofs.YtlmabdiodopidaaW.PrintMore
attribute [local go_sem] max2_int min2_int max_two min_two max_three min_three max_four min_four   -- for this text's walks alone
set_option linter.unusedVariables false
set_option linter.unusedSimpArgs false

/-! ### corebankref14_Grains: function 25 -/
mutual
def corebankref14_Grains.l0 : Nat → List (S43) → Int → Int → Option (Int × Int × Int)
  | 0, _, _, _ => none
  | k + 1, x0, x1, x6 => if x6 < (x0.length : Int) then (if 0 ≤ x6 then (if ((rd_T43 x0 x6).f0) < 0 then (some (0, 0, 1)) else (if ((rd_T43 x0 x6).f1) < 0 then (some (0, 0, 1)) else (if ((rd_T43 x0 x6).f1) > 1000000 then (some (0, 0, 1)) else (corebankref14_Grains.l0 k x0 x1 (wrap64 (x6 + 1)))))) else (none)) else (if x1 < 0 then (corebankref14_Grains.j1 k x0 x1 true) else (corebankref14_Grains.j1 k x0 x1 (decide (x1 > 6412320000))))
def corebankref14_Grains.j1 : Nat → List (S43) → Int → Bool → Option (Int × Int × Int)
  | 0, _, _, _ => none
  | k + 1, x0, x1, x51 => if x51 = true then (some (0, 0, 1)) else (corebankref14_Grains.l1 k x0 x1 0 0 0)
def corebankref14_Grains.l1 : Nat → List (S43) → Int → Int → Int → Int → Option (Int × Int × Int)
  | 0, _, _, _, _, _ => none
  | k + 1, x0, x1, x8, x379000, x379001 => if x8 < (x0.length : Int) then (if 0 ≤ x8 then ((corebankref01_Mul.f k ((rd_T43 x0 x8).f0) ((rd_T43 x0 x8).f1)).bind fun bt381 => ((corebankref01_Scale.f k bt381.1 bt381.2 x1).bind fun bt383 => ((corebankref01_Add.f x379000 x379001 bt383.1 bt383.2.1).bind fun bt387 => (corebankref14_Grains.l1 k x0 x1 (wrap64 (x8 + 1)) bt387.1 bt387.2.1)))) else (none)) else (some (x379000, x379001, 0))
end
def corebankref14_Grains.f (k : Nat) (l0 : List (S43)) (a1 : Int) : Option (Int × Int × Int) := if (l0.length : Int) > 6 then (some (0, 0, 5)) else (corebankref14_Grains.l0 k l0 a1 0)
theorem corebankref14_Grains.mono_l : ∀ k, (∀ y0 y1 y2, LeO (corebankref14_Grains.l0 k y0 y1 y2) (corebankref14_Grains.l0 (k + 1) y0 y1 y2)) ∧ (∀ y0 y1 y2, LeO (corebankref14_Grains.j1 k y0 y1 y2) (corebankref14_Grains.j1 (k + 1) y0 y1 y2)) ∧ (∀ y0 y1 y2 y3 y4, LeO (corebankref14_Grains.l1 k y0 y1 y2 y3 y4) (corebankref14_Grains.l1 (k + 1) y0 y1 y2 y3 y4))
  | 0 => ⟨fun _ _ _ r h => by simp [corebankref14_Grains.l0] at h, fun _ _ _ r h => by simp [corebankref14_Grains.j1] at h, fun _ _ _ _ _ r h => by simp [corebankref14_Grains.l1] at h⟩
  | k + 1 => by
    obtain ⟨ih0, ih1, ih2⟩ := corebankref14_Grains.mono_l k
    refine ⟨?_, ?_, ?_⟩
    · intro y0 y1 y2
      unfold corebankref14_Grains.l0
      repeat' first
      | (with_reducible exact ih0 _ _ _)
      | (with_reducible exact ih1 _ _ _)
      | (with_reducible exact ih2 _ _ _ _ _)
      | (with_reducible exact corebankref01_Mul.mono _ _ _)
      | (with_reducible exact corebankref01_Scale.mono _ _ _ _)
      | (with_reducible exact LeO.refl _)
      | (with_reducible exact LeO.none _)
      | (with_reducible refine LeO.ite ?_ ?_)
      | (with_reducible refine LeO.bind ?_ (fun _ => ?_))
      | exact ih0 _ _ _
      | exact ih1 _ _ _
      | exact ih2 _ _ _ _ _
      | exact corebankref01_Mul.mono _ _ _
      | exact corebankref01_Scale.mono _ _ _ _
      | exact LeO.none _
      | refine LeO.ite ?_ ?_
      | refine LeO.bind ?_ (fun _ => ?_)
    · intro y0 y1 y2
      unfold corebankref14_Grains.j1
      repeat' first
      | (with_reducible exact ih0 _ _ _)
      | (with_reducible exact ih1 _ _ _)
      | (with_reducible exact ih2 _ _ _ _ _)
      | (with_reducible exact corebankref01_Mul.mono _ _ _)
      | (with_reducible exact corebankref01_Scale.mono _ _ _ _)
      | (with_reducible exact LeO.refl _)
      | (with_reducible exact LeO.none _)
      | (with_reducible refine LeO.ite ?_ ?_)
      | (with_reducible refine LeO.bind ?_ (fun _ => ?_))
      | exact ih0 _ _ _
      | exact ih1 _ _ _
      | exact ih2 _ _ _ _ _
      | exact corebankref01_Mul.mono _ _ _
      | exact corebankref01_Scale.mono _ _ _ _
      | exact LeO.none _
      | refine LeO.ite ?_ ?_
      | refine LeO.bind ?_ (fun _ => ?_)
    · intro y0 y1 y2 y3 y4
      unfold corebankref14_Grains.l1
      repeat' first
      | (with_reducible exact ih0 _ _ _)
      | (with_reducible exact ih1 _ _ _)
      | (with_reducible exact ih2 _ _ _ _ _)
      | (with_reducible exact corebankref01_Mul.mono _ _ _)
      | (with_reducible exact corebankref01_Scale.mono _ _ _ _)
      | (with_reducible exact LeO.refl _)
      | (with_reducible exact LeO.none _)
      | (with_reducible refine LeO.ite ?_ ?_)
      | (with_reducible refine LeO.bind ?_ (fun _ => ?_))
      | exact ih0 _ _ _
      | exact ih1 _ _ _
      | exact ih2 _ _ _ _ _
      | exact corebankref01_Mul.mono _ _ _
      | exact corebankref01_Scale.mono _ _ _ _
      | exact LeO.none _
      | refine LeO.ite ?_ ?_
      | refine LeO.bind ?_ (fun _ => ?_)
theorem corebankref14_Grains.mono : ∀ a0 a1 k, LeO (corebankref14_Grains.f k a0 a1) (corebankref14_Grains.f (k + 1) a0 a1) := by
  intro a0 a1 k
  obtain ⟨ih0, ih1, ih2⟩ := corebankref14_Grains.mono_l k
  unfold corebankref14_Grains.f
  repeat' first
      | (with_reducible exact ih0 _ _ _)
      | (with_reducible exact ih1 _ _ _)
      | (with_reducible exact ih2 _ _ _ _ _)
      | (with_reducible exact corebankref01_Mul.mono _ _ _)
      | (with_reducible exact corebankref01_Scale.mono _ _ _ _)
      | (with_reducible exact LeO.refl _)
      | (with_reducible exact LeO.none _)
      | (with_reducible refine LeO.ite ?_ ?_)
      | (with_reducible refine LeO.bind ?_ (fun _ => ?_))
      | exact ih0 _ _ _
      | exact ih1 _ _ _
      | exact ih2 _ _ _ _ _
      | exact corebankref01_Mul.mono _ _ _
      | exact corebankref01_Scale.mono _ _ _ _
      | exact LeO.none _
      | refine LeO.ite ?_ ?_
      | refine LeO.bind ?_ (fun _ => ?_)
def corebankref14_Grains.T14 : Bool × List (List Nat × List Nat) := (true, [([], []), ([], []), ([0, 1], [0, 1]), ([2], [2]), ([3], [3]), ([], []), ([], []), ([5, 6], [5, 6]), ([7], [7]), ([8], [8]), ([4, 9], [4, 9]), ([], []), ([10, 11, 10], [10, 11]), ([12], [12]), ([13], [13]), ([13], [13]), ([], []), ([16, 14, 12, 0, 1, 2, 3, 4, 5, 6, 7, 8, 9, 10, 11, 12, 13, 14, 16], [14, 16]), ([15, 17, 0, 1, 2, 3, 4, 5, 6, 7, 8, 9, 10, 11, 12, 13, 14, 15, 16, 17], [15])])
def corebankref14_Grains.B14 : List Nat := [0, 0, 3, 7, 15, 0, 0, 96, 224, 480, 1023, 0, 4095, 8191, 16383, 16383, 0, 98303, 262143]
theorem corebankref14_Grains.tab14 : rtab .any (opsOf Try.f25 14) = corebankref14_Grains.T14 := by kernel_rfl
theorem corebankref14_Grains.bits14 : waitsOk corebankref14_Grains.T14.2 corebankref14_Grains.B14 = true := by kernel_rfl
set_option maxHeartbeats 8000000 in
set_option maxRecDepth 100000 in
theorem corebankref14_Grains.calls (k : Nat) (A0 : Option Addr) (c0 : Nat) (l0 : List (S43)) (a1 : Int) (r1 : Int) (r2 : Int) (r3 : Int) (w : World) (hr0 : Kd.C k43 w A0 l0.length l0) (hc0 : l0.length ≤ c0) (h : corebankref14_Grains.f k l0 a1 = some (r1, r2, r3)) :
    Calls Try.prog 25 #[.slice A0 l0.length c0, .int .i64 a1] w fun e w' => e = .returned (.tuple #[.agg #[.int .i64 r1, .int .u64 r2], .int .i64 r3]) ∧ Below w.heap.size w w' := by
  have hu35 := Try.underlying35
  have HR0 := Aside0.mk hr0
  have HC0 := Aside0.mk hc0
  clear hr0 hc0
  have HB := Aside0.mk (Below.refl w.heap.size w)
  have H : (if (l0.length : Int) > 6 then (some (0, 0, 5)) else (corebankref14_Grains.l0 k l0 a1 0)) = some (r1, r2, r3) := h
  clear h
  by_cases c3 : (l0.length : Int) > 6
  · rw [if_pos c3] at H
    have c3b0 : decide (6 < (l0.length : Int)) = true := decide_eq_true c3
    have c3b1 : decide (6 < l0.length) = true := decide_eq_true (by omega)
    clear c3
    simp only [Option.some.injEq, Prod.mk.injEq] at H
    obtain ⟨rfl, rfl, rfl⟩ := H
    go_enter Try.func25, Try.ntmps25
    go_wp2_with (first | ((with_reducible refine gate_dst (N := 4) rfl ?_); refine box_event ?hg (N := 4) ?hd (cs := #[.int .i64 0, .int .u64 0]) (t := 35) ?hr ?_; (case hd => rfl); (case hg => rfl); (case hr => first | (go_simp; done) | (go_simp; rfl)); intro gb374 hg w4 hbox hb; have BK374 := Aside0.mk (hbox); have GW374 := ge HB hg; have GE374 := ge HB hg; replace HB := bs HB hb; clear hb hbox hg; obtain ⟨hcz5_0, hcz5_1, hfz5_0, hfz5_1⟩ := cz2 BK374))
    refine bodyPost_ret (results_ct rfl _ _ gb374 35 #[.int .i64 0, .int .u64 0] (0, 0) _ rfl (bp BK374) Try.underlying35 rfl (by kernel_rfl)) rfl ?_
    exact ⟨by first | rfl | (simp [errW_none, errW_some] <;> rfl) | (simp [*, errW_none, errW_some] <;> rfl), hq HB⟩
  · rw [if_neg c3] at H
    have c3b0 : decide (6 < (l0.length : Int)) = false := decide_eq_false c3
    have c3b1 : decide (6 < l0.length) = false := decide_eq_false (by omega)
    clear c3
    have H' := Aside0.mk H
    clear H
    go_enter Try.func25, Try.ntmps25
    go_wp2_with (first | ((with_reducible refine gate_dst (N := 4) rfl ?_); refine box_event ?hg (N := 4) ?hd (cs := #[.int .i64 0, .int .u64 0]) (t := 35) ?hr ?_; (case hd => rfl); (case hg => rfl); (case hr => first | (go_simp; done) | (go_simp; rfl)); intro gb374 hg w6 hbox hb; have BK374 := Aside0.mk (hbox); have GW374 := ge HB hg; have GE374 := ge HB hg; replace HB := bs HB hb; clear hb hbox hg))
    go_loopg [6] k (fun kq v6 w' => ∃ (x6_1 : Int) (x375000_1 : Int) (x375001_1 : Int), v6 = .int .i64 x6_1 ∧ Aside0 (corebankref14_Grains.l0 kq l0 a1 x6_1 = some (r1, r2, r3)) ∧ Aside0 (kq ≤ k) ∧ Aside0 (w'.heap[gb374]? = some (.cells #[.int .i64 x375000_1, .int .u64 x375001_1] 35 (0, 0))) ∧ Aside0 (Below w.heap.size w w'))
    case atStart => exact ⟨(0), (0), (0), (by first | rfl | (simp; done) | (simp [*]; done)), H', ⟨Nat.le_refl _⟩, ⟨bq BK374⟩, ⟨hq HB⟩⟩
    case round =>
      clear H'
      try clear c2
      try clear p2
      try clear c3
      try clear c3b0
      try clear c3b1
      try clear hcz5_0
      try clear hcz5_1
      try clear hfz5_0
      try clear hfz5_1
      obtain ⟨x6_1, x375000_1, x375001_1, rfl, HA, HK1, BK374, HB⟩ := hrel
      cases gk with
      | zero => exact absurd HA.out (by simp [corebankref14_Grains.l0])
      | succ k1 =>
        have H := HA.out
        clear HA
        simp only [corebankref14_Grains.l0] at H
        by_cases c7 : x6_1 < (l0.length : Int)
        · rw [if_pos c7] at H
          have c7b0 : decide (x6_1 < (l0.length : Int)) = true := decide_eq_true c7
          clear c7
          by_cases c8 : 0 ≤ x6_1
          · rw [if_pos c8] at H
            have c8b0 : decide (0 ≤ x6_1) = true := decide_eq_true c8
            clear c8
            by_cases c9 : ((rd_T43 l0 x6_1).f0) < 0
            · rw [if_pos c9] at H
              have c9b0 : decide (((rd_T43 l0 x6_1).f0) < 0) = true := decide_eq_true c9
              clear c9
              simp only [Option.some.injEq, Prod.mk.injEq] at H
              obtain ⟨rfl, rfl, rfl⟩ := H
              have p375 : 0 ≤ (x6_1 : Int) := of_decide_eq_true (by first | (with_reducible assumption) | assumption)
              have q375 : x6_1 < (l0.length : Int) := of_decide_eq_true (by first | (with_reducible assumption) | assumption)
              obtain ⟨ad375, e375, hx375_0, hx375_1⟩ := at_T43 HR0.out x6_1 p375 q375
              cases e375
              replace hx375_0 := (HB.out.cell (World.block_lt_of_cell? w _ hx375_0)).trans hx375_0
              replace hx375_1 := (HB.out.cell (World.block_lt_of_cell? w _ hx375_1)).trans hx375_1
              replace p375 := eq_true p375
              replace q375 := eq_true q375
              obtain ⟨hcz10_0, hcz10_1, hfz10_0, hfz10_1⟩ := cz2 BK374
              go_wp2
              refine bodyPost_ret (results_ct rfl _ _ gb374 35 #[.int .i64 0, .int .u64 0] (0, 0) _ rfl (bp BK374) Try.underlying35 rfl (by kernel_rfl)) rfl ?_
              exact ⟨by first | rfl | (simp [errW_none, errW_some] <;> rfl) | (simp [*, errW_none, errW_some] <;> rfl), hq HB⟩
            · rw [if_neg c9] at H
              have c9b0 : decide (((rd_T43 l0 x6_1).f0) < 0) = false := decide_eq_false c9
              clear c9
              by_cases c11 : ((rd_T43 l0 x6_1).f1) < 0
              · rw [if_pos c11] at H
                have c11b0 : decide (((rd_T43 l0 x6_1).f1) < 0) = true := decide_eq_true c11
                clear c11
                simp only [Option.some.injEq, Prod.mk.injEq] at H
                obtain ⟨rfl, rfl, rfl⟩ := H
                have p375 : 0 ≤ (x6_1 : Int) := of_decide_eq_true (by first | (with_reducible assumption) | assumption)
                have q375 : x6_1 < (l0.length : Int) := of_decide_eq_true (by first | (with_reducible assumption) | assumption)
                obtain ⟨ad375, e375, hx375_0, hx375_1⟩ := at_T43 HR0.out x6_1 p375 q375
                cases e375
                replace hx375_0 := (HB.out.cell (World.block_lt_of_cell? w _ hx375_0)).trans hx375_0
                replace hx375_1 := (HB.out.cell (World.block_lt_of_cell? w _ hx375_1)).trans hx375_1
                replace p375 := eq_true p375
                replace q375 := eq_true q375
                have p376 : 0 ≤ (x6_1 : Int) := of_decide_eq_true (by first | (with_reducible assumption) | assumption)
                have q376 : x6_1 < (l0.length : Int) := of_decide_eq_true (by first | (with_reducible assumption) | assumption)
                obtain ⟨ad376, e376, hx376_0, hx376_1⟩ := at_T43 HR0.out x6_1 p376 q376
                obtain rfl : ad375 = ad376 := (by injection e376)
                replace hx376_0 := (HB.out.cell (World.block_lt_of_cell? w _ hx376_0)).trans hx376_0
                replace hx376_1 := (HB.out.cell (World.block_lt_of_cell? w _ hx376_1)).trans hx376_1
                replace p376 := eq_true p376
                replace q376 := eq_true q376
                obtain ⟨hcz12_0, hcz12_1, hfz12_0, hfz12_1⟩ := cz2 BK374
                go_wp2
                refine bodyPost_ret (results_ct rfl _ _ gb374 35 #[.int .i64 0, .int .u64 0] (0, 0) _ rfl (bp BK374) Try.underlying35 rfl (by kernel_rfl)) rfl ?_
                exact ⟨by first | rfl | (simp [errW_none, errW_some] <;> rfl) | (simp [*, errW_none, errW_some] <;> rfl), hq HB⟩
              · rw [if_neg c11] at H
                have c11b0 : decide (((rd_T43 l0 x6_1).f1) < 0) = false := decide_eq_false c11
                clear c11
                by_cases c13 : ((rd_T43 l0 x6_1).f1) > 1000000
                · rw [if_pos c13] at H
                  have c13b0 : decide (1000000 < ((rd_T43 l0 x6_1).f1)) = true := decide_eq_true c13
                  clear c13
                  simp only [Option.some.injEq, Prod.mk.injEq] at H
                  obtain ⟨rfl, rfl, rfl⟩ := H
                  have p375 : 0 ≤ (x6_1 : Int) := of_decide_eq_true (by first | (with_reducible assumption) | assumption)
                  have q375 : x6_1 < (l0.length : Int) := of_decide_eq_true (by first | (with_reducible assumption) | assumption)
                  obtain ⟨ad375, e375, hx375_0, hx375_1⟩ := at_T43 HR0.out x6_1 p375 q375
                  cases e375
                  replace hx375_0 := (HB.out.cell (World.block_lt_of_cell? w _ hx375_0)).trans hx375_0
                  replace hx375_1 := (HB.out.cell (World.block_lt_of_cell? w _ hx375_1)).trans hx375_1
                  replace p375 := eq_true p375
                  replace q375 := eq_true q375
                  have p376 : 0 ≤ (x6_1 : Int) := of_decide_eq_true (by first | (with_reducible assumption) | assumption)
                  have q376 : x6_1 < (l0.length : Int) := of_decide_eq_true (by first | (with_reducible assumption) | assumption)
                  obtain ⟨ad376, e376, hx376_0, hx376_1⟩ := at_T43 HR0.out x6_1 p376 q376
                  obtain rfl : ad375 = ad376 := (by injection e376)
                  replace hx376_0 := (HB.out.cell (World.block_lt_of_cell? w _ hx376_0)).trans hx376_0
                  replace hx376_1 := (HB.out.cell (World.block_lt_of_cell? w _ hx376_1)).trans hx376_1
                  replace p376 := eq_true p376
                  replace q376 := eq_true q376
                  have p377 : 0 ≤ (x6_1 : Int) := of_decide_eq_true (by first | (with_reducible assumption) | assumption)
                  have q377 : x6_1 < (l0.length : Int) := of_decide_eq_true (by first | (with_reducible assumption) | assumption)
                  obtain ⟨ad377, e377, hx377_0, hx377_1⟩ := at_T43 HR0.out x6_1 p377 q377
                  obtain rfl : ad375 = ad377 := (by injection e377)
                  replace hx377_0 := (HB.out.cell (World.block_lt_of_cell? w _ hx377_0)).trans hx377_0
                  replace hx377_1 := (HB.out.cell (World.block_lt_of_cell? w _ hx377_1)).trans hx377_1
                  replace p377 := eq_true p377
                  replace q377 := eq_true q377
                  obtain ⟨hcz14_0, hcz14_1, hfz14_0, hfz14_1⟩ := cz2 BK374
                  go_wp2
                  refine bodyPost_ret (results_ct rfl _ _ gb374 35 #[.int .i64 0, .int .u64 0] (0, 0) _ rfl (bp BK374) Try.underlying35 rfl (by kernel_rfl)) rfl ?_
                  exact ⟨by first | rfl | (simp [errW_none, errW_some] <;> rfl) | (simp [*, errW_none, errW_some] <;> rfl), hq HB⟩
                · rw [if_neg c13] at H
                  have c13b0 : decide (1000000 < ((rd_T43 l0 x6_1).f1)) = false := decide_eq_false c13
                  clear c13
                  have H' := Aside0.mk H
                  clear H
                  have p375 : 0 ≤ (x6_1 : Int) := of_decide_eq_true (by first | (with_reducible assumption) | assumption)
                  have q375 : x6_1 < (l0.length : Int) := of_decide_eq_true (by first | (with_reducible assumption) | assumption)
                  obtain ⟨ad375, e375, hx375_0, hx375_1⟩ := at_T43 HR0.out x6_1 p375 q375
                  cases e375
                  replace hx375_0 := (HB.out.cell (World.block_lt_of_cell? w _ hx375_0)).trans hx375_0
                  replace hx375_1 := (HB.out.cell (World.block_lt_of_cell? w _ hx375_1)).trans hx375_1
                  replace p375 := eq_true p375
                  replace q375 := eq_true q375
                  have p376 : 0 ≤ (x6_1 : Int) := of_decide_eq_true (by first | (with_reducible assumption) | assumption)
                  have q376 : x6_1 < (l0.length : Int) := of_decide_eq_true (by first | (with_reducible assumption) | assumption)
                  obtain ⟨ad376, e376, hx376_0, hx376_1⟩ := at_T43 HR0.out x6_1 p376 q376
                  obtain rfl : ad375 = ad376 := (by injection e376)
                  replace hx376_0 := (HB.out.cell (World.block_lt_of_cell? w _ hx376_0)).trans hx376_0
                  replace hx376_1 := (HB.out.cell (World.block_lt_of_cell? w _ hx376_1)).trans hx376_1
                  replace p376 := eq_true p376
                  replace q376 := eq_true q376
                  have p377 : 0 ≤ (x6_1 : Int) := of_decide_eq_true (by first | (with_reducible assumption) | assumption)
                  have q377 : x6_1 < (l0.length : Int) := of_decide_eq_true (by first | (with_reducible assumption) | assumption)
                  obtain ⟨ad377, e377, hx377_0, hx377_1⟩ := at_T43 HR0.out x6_1 p377 q377
                  obtain rfl : ad375 = ad377 := (by injection e377)
                  replace hx377_0 := (HB.out.cell (World.block_lt_of_cell? w _ hx377_0)).trans hx377_0
                  replace hx377_1 := (HB.out.cell (World.block_lt_of_cell? w _ hx377_1)).trans hx377_1
                  replace p377 := eq_true p377
                  replace q377 := eq_true q377
                  go_wp2
                  go_roundg k1
                  case measure => have := HK1.out; omega
                  case rel => exact ⟨(wrap64 (x6_1 + 1)), (x375000_1), (x375001_1), (by first | rfl | (simp; done) | (simp [*]; done)), H', ⟨by have := HK1.out; omega⟩, ⟨bq BK374⟩, ⟨hq HB⟩⟩
          · rw [if_neg c8] at H
            exact absurd H (by simp)
        · rw [if_neg c7] at H
          have c7b0 : decide (x6_1 < (l0.length : Int)) = false := decide_eq_false c7
          clear c7
          have HC15 := Aside0.mk H
          clear H
          go_upto_region 8 with (fail)
          go_cut [51] (fun v51 wc => ∃ (kq : Nat) (x51_14 : Bool), v51 = .bool x51_14 ∧ Aside0 (corebankref14_Grains.j1 kq l0 a1 x51_14 = some (r1, r2, r3)) ∧ Aside0 (kq ≤ k1) ∧ Aside0 (wc.heap[gb374]? = some (.cells #[.int .i64 x375000_1, .int .u64 x375001_1] 35 (0, 0))) ∧ Aside0 (Below w.heap.size w wc))
          case first =>
            have H := HC15.out
            clear HC15
            by_cases c16 : a1 < 0
            · rw [if_pos c16] at H
              have c16b0 : decide (a1 < 0) = true := decide_eq_true c16
              clear c16
              (first | rw [c16b0] | (simp only [i64_w, i32_w]; rw [c16b0]) | skip)
              have H' := Aside0.mk H
              clear H
              go_wp2
              go_meet
              case rel => exact ⟨_, (true), (by first | rfl | (simp; done) | (simp [*]; done)), H', ⟨by have := HK1.out; first | omega | exact Nat.le_refl _⟩, ⟨bq BK374⟩, ⟨hq HB⟩⟩
            · rw [if_neg c16] at H
              have c16b0 : decide (a1 < 0) = false := decide_eq_false c16
              clear c16
              (first | rw [c16b0] | (simp only [i64_w, i32_w]; rw [c16b0]) | skip)
              have H' := Aside0.mk H
              clear H
              go_wp2
              go_meet
              case rel => exact ⟨_, (decide (a1 > 6412320000)), (by first | rfl | (simp; done) | (simp [*]; done)), H', ⟨by have := HK1.out; first | omega | exact Nat.le_refl _⟩, ⟨bq BK374⟩, ⟨hq HB⟩⟩
          case rest =>
            clear HC15
            try clear c1
            try clear c2
            try clear p2
            try clear c3
            try clear c3b0
            try clear c3b1
            try clear p3
            try clear q3
            try clear hx3
            try clear p6
            try clear c7
            try clear c7b0
            try clear c8
            try clear c8b0
            try clear c9
            try clear c9b0
            try clear c11
            try clear c11b0
            try clear c13
            try clear c13b0
            try clear c16
            try clear c16b0
            try clear hcz10_0
            try clear hcz10_1
            try clear hcz12_0
            try clear hcz12_1
            try clear hcz14_0
            try clear hcz14_1
            try clear hcz5_0
            try clear hcz5_1
            try clear hfz10_0
            try clear hfz10_1
            try clear hfz12_0
            try clear hfz12_1
            try clear hfz14_0
            try clear hfz14_1
            try clear hfz5_0
            try clear hfz5_1
            try clear hx375_0
            try clear hx375_1
            try clear hx376_0
            try clear hx376_1
            try clear hx377_0
            try clear hx377_1
            try clear p2
            try clear p375
            try clear p376
            try clear p377
            try clear q375
            try clear q376
            try clear q377
            obtain ⟨kq, x51_14, rfl, HA, HJ14, BK374, HB⟩ := hcut
            cases kq with
            | zero => exact absurd HA.out (by simp [corebankref14_Grains.j1])
            | succ kj14 =>
              have H := HA.out
              clear HA
              simp only [corebankref14_Grains.j1] at H
              by_cases c17 : x51_14 = true
              · subst c17
                have H1 : (some (0, 0, 1)) = some (r1, r2, r3) := by rw [if_pos rfl] at H; exact H
                clear H
                have H := H1
                clear H1
                simp only [Option.some.injEq, Prod.mk.injEq] at H
                obtain ⟨rfl, rfl, rfl⟩ := H
                obtain ⟨hcz18_0, hcz18_1, hfz18_0, hfz18_1⟩ := cz2 BK374
                go_wp2
                refine bodyPost_ret (results_ct rfl _ _ gb374 35 #[.int .i64 0, .int .u64 0] (0, 0) _ rfl (bp BK374) Try.underlying35 rfl (by kernel_rfl)) rfl ?_
                exact ⟨by first | rfl | (simp [errW_none, errW_some] <;> rfl) | (simp [*, errW_none, errW_some] <;> rfl), hq HB⟩
              · replace c17 := Bool.eq_false_iff.mpr c17
                subst c17
                have H1 : (corebankref14_Grains.l1 kj14 l0 a1 0 0 0) = some (r1, r2, r3) := by rw [if_neg (show ¬ (false = true) by decide)] at H; exact H
                clear H
                have H := H1
                clear H1
                have H' := Aside0.mk H
                clear H
                go_wp2_with (first | ((with_reducible refine gate_dst (N := 7) rfl ?_); refine box_event ?hg (N := 7) ?hd (cs := #[.int .i64 0, .int .u64 0]) (t := 35) ?hr ?_; (case hd => rfl); (case hg => rfl); (case hr => first | (go_simp; done) | (go_simp; rfl)); intro gb378 hg w19 hbox hb; have BK378 := Aside0.mk (hbox); have GW378 := ge HB hg; have GE378 := ge HB hg; have NB374_378 := nl BK374 hg; have NB378_374 := ng NB374_378; replace BK374 := bb BK374 hb; replace HB := bs HB hb; clear hb hbox hg; have hnb20 := NB378_374.out; have hnc20 := NB374_378.out; obtain ⟨hcz21_0, hcz21_1, hfz21_0, hfz21_1⟩ := cz2 BK378))
                go_loopg [8] kj14 (fun kq v8 w' => ∃ (x8_3 : Int) (x379000_3 : Int) (x379001_3 : Int), v8 = .int .i64 x8_3 ∧ Aside0 (corebankref14_Grains.l1 kq l0 a1 x8_3 x379000_3 x379001_3 = some (r1, r2, r3)) ∧ Aside0 (kq ≤ kj14) ∧ Aside0 (w'.heap[gb374]? = some (.cells #[.int .i64 x375000_1, .int .u64 x375001_1] 35 (0, 0))) ∧ Aside0 (w'.heap[gb378]? = some (.cells #[.int .i64 x379000_3, .int .u64 x379001_3] 35 (0, 0))) ∧ Aside0 (Below w.heap.size w w'))
                case atStart => exact ⟨(0), (0), (0), (by first | rfl | (simp; done) | (simp [*]; done)), H', ⟨Nat.le_refl _⟩, ⟨bq BK374⟩, ⟨bp BK378⟩, ⟨hq HB⟩⟩
                case round =>
                  clear H'
                  try clear c1
                  try clear c2
                  try clear p2
                  try clear c3
                  try clear c3b0
                  try clear c3b1
                  try clear p3
                  try clear q3
                  try clear hx3
                  try clear p6
                  try clear c7
                  try clear c7b0
                  try clear c8
                  try clear c8b0
                  try clear c9
                  try clear c9b0
                  try clear c11
                  try clear c11b0
                  try clear c13
                  try clear c13b0
                  try clear c16
                  try clear c16b0
                  try clear c17
                  try clear c20
                  try clear hcz10_0
                  try clear hcz10_1
                  try clear hcz12_0
                  try clear hcz12_1
                  try clear hcz14_0
                  try clear hcz14_1
                  try clear hcz18_0
                  try clear hcz18_1
                  try clear hcz21_0
                  try clear hcz21_1
                  try clear hcz5_0
                  try clear hcz5_1
                  try clear hfz10_0
                  try clear hfz10_1
                  try clear hfz12_0
                  try clear hfz12_1
                  try clear hfz14_0
                  try clear hfz14_1
                  try clear hfz18_0
                  try clear hfz18_1
                  try clear hfz21_0
                  try clear hfz21_1
                  try clear hfz5_0
                  try clear hfz5_1
                  try clear hx375_0
                  try clear hx375_1
                  try clear hx376_0
                  try clear hx376_1
                  try clear hx377_0
                  try clear hx377_1
                  try clear p2
                  try clear p3
                  try clear p375
                  try clear p376
                  try clear p377
                  try clear p6
                  try clear q3
                  try clear q375
                  try clear q376
                  try clear q377
                  obtain ⟨x8_3, x379000_3, x379001_3, rfl, HA, HK3, BK374, BK378, HB⟩ := hrel
                  cases gk with
                  | zero => exact absurd HA.out (by simp [corebankref14_Grains.l1])
                  | succ k3 =>
                    have H := HA.out
                    clear HA
                    simp only [corebankref14_Grains.l1] at H
                    by_cases c22 : x8_3 < (l0.length : Int)
                    · rw [if_pos c22] at H
                      have c22b0 : decide (x8_3 < (l0.length : Int)) = true := decide_eq_true c22
                      clear c22
                      by_cases c23 : 0 ≤ x8_3
                      · rw [if_pos c23] at H
                        have c23b0 : decide (0 ≤ x8_3) = true := decide_eq_true c23
                        clear c23
                        replace H := Option.bind_eq_some_iff.mp H
                        obtain ⟨⟨t381, t382⟩, A240, H⟩ := H
                        replace H : ((corebankref01_Scale.f k3 t381 t382 a1).bind fun bt383 => ((corebankref01_Add.f x379000_3 x379001_3 bt383.1 bt383.2.1).bind fun bt387 => (corebankref14_Grains.l1 k3 l0 a1 (wrap64 (x8_3 + 1)) bt387.1 bt387.2.1))) = some (r1, r2, r3) := H
                        have A24 := Aside0.mk A240
                        clear A240
                        replace H := Option.bind_eq_some_iff.mp H
                        obtain ⟨⟨t383, t384, t385⟩, A250, H⟩ := H
                        replace H : ((corebankref01_Add.f x379000_3 x379001_3 t383 t384).bind fun bt387 => (corebankref14_Grains.l1 k3 l0 a1 (wrap64 (x8_3 + 1)) bt387.1 bt387.2.1)) = some (r1, r2, r3) := H
                        have A25 := Aside0.mk A250
                        clear A250
                        replace H := Option.bind_eq_some_iff.mp H
                        obtain ⟨⟨t387, t388, t389⟩, A260, H⟩ := H
                        replace H : (corebankref14_Grains.l1 k3 l0 a1 (wrap64 (x8_3 + 1)) t387 t388) = some (r1, r2, r3) := H
                        have A26 := Aside0.mk A260
                        clear A260
                        have H' := Aside0.mk H
                        clear H
                        try go_wp2
                        replace BK374 := bd1 BK374
                        replace BK378 := bd1 BK378
                        replace HB := hb1 HB
                        have p379 : 0 ≤ (x8_3 : Int) := of_decide_eq_true (by first | (with_reducible assumption) | assumption)
                        have q379 : x8_3 < (l0.length : Int) := of_decide_eq_true (by first | (with_reducible assumption) | assumption)
                        obtain ⟨ad379, e379, hx379_0, hx379_1⟩ := at_T43 HR0.out x8_3 p379 q379
                        have hw379_1 := hx379_1
                        have hw379_0 := hx379_0
                        cases e379
                        replace hx379_0 := (HB.out.cell (World.block_lt_of_cell? w _ hx379_0)).trans hx379_0
                        replace hx379_1 := (HB.out.cell (World.block_lt_of_cell? w _ hx379_1)).trans hx379_1
                        replace p379 := eq_true p379
                        replace q379 := eq_true q379
                        have p380 : 0 ≤ (x8_3 : Int) := of_decide_eq_true (by first | (with_reducible assumption) | assumption)
                        have q380 : x8_3 < (l0.length : Int) := of_decide_eq_true (by first | (with_reducible assumption) | assumption)
                        obtain ⟨ad380, e380, hx380_0, hx380_1⟩ := at_T43 HR0.out x8_3 p380 q380
                        have hw380_1 := hx380_1
                        have hw380_0 := hx380_0
                        obtain rfl : ad379 = ad380 := (by injection e380)
                        replace hx380_0 := (HB.out.cell (World.block_lt_of_cell? w _ hx380_0)).trans hx380_0
                        replace hx380_1 := (HB.out.cell (World.block_lt_of_cell? w _ hx380_1)).trans hx380_1
                        replace p380 := eq_true p380
                        replace q380 := eq_true q380
                        refine start_ (n := 19) (S := fun w' => w'.cell? (ad379.add ((x8_3).toNat * 2)) = some (.int .i64 ((rd_T43 l0 x8_3).f0)) ∧ w'.cell? ⟨(ad379.add ((x8_3).toNat * 2)).block, (ad379.add ((x8_3).toNat * 2)).off + 1, none⟩ = some (.int .i64 ((rd_T43 l0 x8_3).f1)) ∧ w'.cell? (ad379.add ((x8_3).toNat * 2)) = some (.int .i64 ((rd_T43 l0 x8_3).f0)) ∧ w'.cell? ⟨(ad379.add ((x8_3).toNat * 2)).block, (ad379.add ((x8_3).toNat * 2)).off + 1, none⟩ = some (.int .i64 ((rd_T43 l0 x8_3).f1))) (ds := []) #[false, false, false, false, false, false, false, false, false, false, false, false, false, false, false, false, false, false, false] (by kernel_rfl) rfl rfl ⟨((HB.out.cell (World.block_lt_of_cell? w _ hw379_0)).trans hw379_0), ((HB.out.cell (World.block_lt_of_cell? w _ hw379_1)).trans hw379_1), ((HB.out.cell (World.block_lt_of_cell? w _ hw380_0)).trans hw380_0), ((HB.out.cell (World.block_lt_of_cell? w _ hw380_1)).trans hw380_1)⟩ (fun hHeld => ?_); refine with_tabW corebankref14_Grains.tab14 corebankref14_Grains.bits14 (fun HT_ HW_ => ?_)
                        generalize wr.drew = w27 at BK374 BK378 HB hx379_0 hx379_1 hx380_0 hx380_1 hHeld ⊢
                        refine pz (i := 0) (N := some 61) #[true, false, false, false, false, false, false, false, false, false, false, false, false, false, false, false, false, false, false] rfl rfl (any_of HT_.out (by kernel_rfl)) (fun _ _ _ h => h) ?_
                        refine pz (i := 1) (N := some 62) #[true, true, false, false, false, false, false, false, false, false, false, false, false, false, false, false, false, false, false] rfl rfl (any_of HT_.out (by kernel_rfl)) (fun _ _ _ h => h) ?_
                        refine pz (i := 2) (N := some 63) #[true, true, true, false, false, false, false, false, false, false, false, false, false, false, false, false, false, false, false] rfl rfl (any_of HT_.out (by kernel_rfl)) (fun _ _ _ h => h) ?_
                        refine pz (i := 3) (N := some 64) #[true, true, true, true, false, false, false, false, false, false, false, false, false, false, false, false, false, false, false] rfl rfl (any_of HT_.out (by kernel_rfl)) (fun _ _ _ h => h) ?_
                        refine pz (i := 5) (N := some 66) #[true, true, true, true, false, true, false, false, false, false, false, false, false, false, false, false, false, false, false] rfl rfl (any_of HT_.out (by kernel_rfl)) (fun _ _ _ h => h) ?_
                        refine pz (i := 6) (N := some 67) #[true, true, true, true, false, true, true, false, false, false, false, false, false, false, false, false, false, false, false] rfl rfl (any_of HT_.out (by kernel_rfl)) (fun _ _ _ h => h) ?_
                        refine pz (i := 7) (N := some 68) #[true, true, true, true, false, true, true, true, false, false, false, false, false, false, false, false, false, false, false] rfl rfl (any_of HT_.out (by kernel_rfl)) (fun _ _ _ h => h) ?_
                        refine pz (i := 8) (N := some 69) #[true, true, true, true, false, true, true, true, true, false, false, false, false, false, false, false, false, false, false] rfl rfl (any_of HT_.out (by kernel_rfl)) (fun _ _ _ h => h) ?_
                        refine pz (i := 11) (N := some 72) #[true, true, true, true, false, true, true, true, true, false, false, true, false, false, false, false, false, false, false] rfl rfl (any_of HT_.out (by kernel_rfl)) (fun _ _ _ h => h) ?_
                        refine tz4 (i := 4) (N := some 65) #[true, true, true, true, true, true, true, true, true, false, false, true, false, false, false, false, false, false, false] rfl rfl (take_ofW HT_.out HW_.out (by kernel_rfl)) (fun _ _ _ h => h) hHeld ?_
                        refine tz4 (i := 9) (N := some 70) #[true, true, true, true, true, true, true, true, true, true, false, true, false, false, false, false, false, false, false] rfl rfl (take_ofW HT_.out HW_.out (by kernel_rfl)) (fun _ _ _ h => h) hHeld ?_
                        refine join_ (σ := Nat) 2 #[true, true, true, true, true, true, true, true, true, true, true, true, true, true, true, true, true, false, false] (fun s_ => [(71, .agg #[.int .i64 t381, .int .u64 t382]), (73, .tuple #[.agg #[.int .i64 t383, .int .u64 t384], .int .i64 t385]), (9, .pointer (some ⟨s_, 0, none⟩)), (60, .tuple #[.agg #[.int .i64 t383, .int .u64 t384], .int .i64 t385]), (74, .agg #[.int .i64 t383, .int .u64 t384]), (75, .int .i64 t385)]) (fun s_ w' => (w'.cell? (ad379.add ((x8_3).toNat * 2)) = some (.int .i64 ((rd_T43 l0 x8_3).f0)) ∧ w'.cell? ⟨(ad379.add ((x8_3).toNat * 2)).block, (ad379.add ((x8_3).toNat * 2)).off + 1, none⟩ = some (.int .i64 ((rd_T43 l0 x8_3).f1)) ∧ w'.cell? (ad379.add ((x8_3).toNat * 2)) = some (.int .i64 ((rd_T43 l0 x8_3).f0)) ∧ w'.cell? ⟨(ad379.add ((x8_3).toNat * 2)).block, (ad379.add ((x8_3).toNat * 2)).off + 1, none⟩ = some (.int .i64 ((rd_T43 l0 x8_3).f1))) ∧ (w'.heap[gb374]? = some (.cells #[.int .i64 x375000_1, .int .u64 x375001_1] 35 (0, 0))) ∧ (w'.heap[gb378]? = some (.cells #[.int .i64 x379000_3, .int .u64 x379001_3] 35 (0, 0))) ∧ (w'.heap[s_]? = some (.cells #[.int .i64 0, .int .u64 0] 35 (0, 0))) ∧ (w.heap.size ≤ s_) ∧ (w.heap.size ≤ s_) ∧ (gb374 ≠ s_) ∧ (s_ ≠ gb374) ∧ (gb378 ≠ s_) ∧ (s_ ≠ gb378) ∧ (Below w.heap.size w w')) ?_ ?_
                        rotate_left
                        · intro hCont
                          refine two_ (i := 10) (j := 16) (Ni := some 71) (Nj := some 9) #[true, true, true, true, true, true, true, true, true, true, true, true, false, false, false, false, false, false, false] #[true, true, true, true, true, true, true, true, true, true, false, true, false, false, false, false, true, false, false] rfl rfl rfl rfl (two_of HT_.out (by kernel_rfl)) (by decide) (by decide) (fun K hK => ?_) (fun K hK => ?_)
                          · skip
                            refine goes_ Try.func47 (by kernel_rfl) rfl #[.int .i64 ((rd_T43 l0 x8_3).f0), .int .i64 ((rd_T43 l0 x8_3).f1)] (by rfl) rfl rfl zm ?_
                            with_reducible refine (corebankref01_Mul.calls k3 ((rd_T43 l0 x8_3).f0) ((rd_T43 l0 x8_3).f1) t381 t382 _ A24.out).mono ?_
                            rintro e w28 ⟨rfl, hb⟩
                            refine ⟨_, rfl, ?_⟩
                            replace BK374 := bb BK374 hb
                            replace BK378 := bb BK378 hb
                            replace HB := bs HB hb
                            (try clear hb)
                            (try clear hb2)
                            (try clear hk)
                            (try clear hi)
                            refine hK.out _ _ ⟨((HB.out.cell (World.block_lt_of_cell? w _ hw379_0)).trans hw379_0), ((HB.out.cell (World.block_lt_of_cell? w _ hw379_1)).trans hw379_1), ((HB.out.cell (World.block_lt_of_cell? w _ hw380_0)).trans hw380_0), ((HB.out.cell (World.block_lt_of_cell? w _ hw380_1)).trans hw380_1)⟩ (fun hHeld => ?_)
                            clear hK K
                            refine norm_ (a' := ?_) ?_ ?_
                            rotate_left
                            · show Act.put _ (some 71) _ = _
                              simp only [Act.put, List.setIfInBounds_toArray, List.set_cons_zero, List.set_cons_succ, i64_w, i32_w]
                              rfl
                            refine two_ (i := 12) (j := 16) (Ni := some 73) (Nj := some 9) #[true, true, true, true, true, true, true, true, true, true, true, true, true, false, false, false, false, false, false] #[true, true, true, true, true, true, true, true, true, true, true, true, false, false, false, false, true, false, false] rfl rfl rfl rfl (two_of HT_.out (by kernel_rfl)) (by decide) (by decide) (fun K hK => ?_) (fun K hK => ?_)
                            · skip
                              refine goes_ Try.func46 (by kernel_rfl) rfl #[.agg #[.int .i64 t381, .int .u64 t382], .int .i64 a1] (by rfl) rfl rfl zm ?_
                              with_reducible refine (corebankref01_Scale.calls k3 t381 t382 a1 t383 t384 t385 _ A25.out).mono ?_
                              rintro e w29 ⟨rfl, hb⟩
                              refine ⟨_, rfl, ?_⟩
                              replace BK374 := bb BK374 hb
                              replace BK378 := bb BK378 hb
                              replace HB := bs HB hb
                              (try clear hb)
                              (try clear hb2)
                              (try clear hk)
                              (try clear hi)
                              refine hK.out _ _ ⟨((HB.out.cell (World.block_lt_of_cell? w _ hw379_0)).trans hw379_0), ((HB.out.cell (World.block_lt_of_cell? w _ hw379_1)).trans hw379_1), ((HB.out.cell (World.block_lt_of_cell? w _ hw380_0)).trans hw380_0), ((HB.out.cell (World.block_lt_of_cell? w _ hw380_1)).trans hw380_1)⟩ (fun hHeld => ?_)
                              clear hK K
                              refine norm_ (a' := ?_) ?_ ?_
                              rotate_left
                              · show Act.put _ (some 73) _ = _
                                simp only [Act.put, List.setIfInBounds_toArray, List.set_cons_zero, List.set_cons_succ, i64_w, i32_w]
                                rfl
                              refine pz (i := 13) (N := some 60) #[true, true, true, true, true, true, true, true, true, true, true, true, true, true, false, false, false, false, false] rfl rfl (any_of HT_.out (by kernel_rfl)) (fun _ _ _ h => h) ?_
                              refine pz (i := 14) (N := some 74) #[true, true, true, true, true, true, true, true, true, true, true, true, true, true, true, false, false, false, false] rfl rfl (any_of HT_.out (by kernel_rfl)) (fun _ _ _ h => h) ?_
                              refine pz (i := 15) (N := some 75) #[true, true, true, true, true, true, true, true, true, true, true, true, true, true, true, true, false, false, false] rfl rfl (any_of HT_.out (by kernel_rfl)) (fun _ _ _ h => h) ?_
                              refine one_ (i := 16) (N := some 9) #[true, true, true, true, true, true, true, true, true, true, true, true, true, true, true, true, true, false, false] rfl rfl (one_of HT_.out (by kernel_rfl)) (by decide) (fun K hK => ?_)
                              refine box_step ?hg (N := 9) ?hd (cs := #[.int .i64 0, .int .u64 0]) (t := 35) ?hr ?_; (case hd => rfl); (case hg => rfl); (case hr => first | (go_simp; done) | (go_simp; rfl))
                              intro gb386 hg w30 hbox hb
                              have BK386 := Aside0.mk (hbox)
                              have GW386 := ge HB hg
                              have GE386 := ge HB hg
                              have NB374_386 := nl BK374 hg
                              have NB386_374 := ng NB374_386
                              have NB378_386 := nl BK378 hg
                              have NB386_378 := ng NB378_386
                              replace BK374 := bb BK374 hb
                              replace BK378 := bb BK378 hb
                              replace HB := bs HB hb
                              clear hb hbox hg
                              refine hK.out _ _ ⟨((HB.out.cell (World.block_lt_of_cell? w _ hw379_0)).trans hw379_0), ((HB.out.cell (World.block_lt_of_cell? w _ hw379_1)).trans hw379_1), ((HB.out.cell (World.block_lt_of_cell? w _ hw380_0)).trans hw380_0), ((HB.out.cell (World.block_lt_of_cell? w _ hw380_1)).trans hw380_1)⟩ (fun hHeld => ?_)
                              clear hK K
                              refine norm_ (a' := ?_) ?_ ?_
                              rotate_left
                              · show Act.put _ (some 9) _ = _
                                simp only [Act.put, List.setIfInBounds_toArray, List.set_cons_zero, List.set_cons_succ, i64_w, i32_w]
                                rfl
                              exact norm_ (by simp only [putAll, Act.put, List.setIfInBounds_toArray, List.set_cons_zero, List.set_cons_succ]) (hCont (gb386) _ ⟨hHeld, (bq BK374), (bq BK378), (bq BK386), GW386.out, GE386.out, NB374_386.out, NB386_374.out, NB378_386.out, NB386_378.out, (hq HB)⟩)
                            · skip
                              refine box_step ?hg (N := 9) ?hd (cs := #[.int .i64 0, .int .u64 0]) (t := 35) ?hr ?_; (case hd => rfl); (case hg => rfl); (case hr => first | (go_simp; done) | (go_simp; rfl))
                              intro gb386 hg w29 hbox hb
                              have BK386 := Aside0.mk (hbox)
                              have GW386 := ge HB hg
                              have GE386 := ge HB hg
                              have NB374_386 := nl BK374 hg
                              have NB386_374 := ng NB374_386
                              have NB378_386 := nl BK378 hg
                              have NB386_378 := ng NB378_386
                              replace BK374 := bb BK374 hb
                              replace BK378 := bb BK378 hb
                              replace HB := bs HB hb
                              clear hb hbox hg
                              refine hK.out _ _ ⟨((HB.out.cell (World.block_lt_of_cell? w _ hw379_0)).trans hw379_0), ((HB.out.cell (World.block_lt_of_cell? w _ hw379_1)).trans hw379_1), ((HB.out.cell (World.block_lt_of_cell? w _ hw380_0)).trans hw380_0), ((HB.out.cell (World.block_lt_of_cell? w _ hw380_1)).trans hw380_1)⟩ (fun hHeld => ?_)
                              clear hK K
                              refine norm_ (a' := ?_) ?_ ?_
                              rotate_left
                              · show Act.put _ (some 9) _ = _
                                simp only [Act.put, List.setIfInBounds_toArray, List.set_cons_zero, List.set_cons_succ, i64_w, i32_w]
                                rfl
                              refine one_ (i := 12) (N := some 73) #[true, true, true, true, true, true, true, true, true, true, true, true, true, false, false, false, true, false, false] rfl rfl (one_of HT_.out (by kernel_rfl)) (by decide) (fun K hK => ?_)
                              refine goes_ Try.func46 (by kernel_rfl) rfl #[.agg #[.int .i64 t381, .int .u64 t382], .int .i64 a1] (by rfl) rfl rfl zm ?_
                              with_reducible refine (corebankref01_Scale.calls k3 t381 t382 a1 t383 t384 t385 _ A25.out).mono ?_
                              rintro e w30 ⟨rfl, hb⟩
                              refine ⟨_, rfl, ?_⟩
                              replace BK374 := bb BK374 hb
                              replace BK378 := bb BK378 hb
                              replace BK386 := bb BK386 hb
                              replace HB := bs HB hb
                              (try clear hb)
                              (try clear hb2)
                              (try clear hk)
                              (try clear hi)
                              refine hK.out _ _ ⟨((HB.out.cell (World.block_lt_of_cell? w _ hw379_0)).trans hw379_0), ((HB.out.cell (World.block_lt_of_cell? w _ hw379_1)).trans hw379_1), ((HB.out.cell (World.block_lt_of_cell? w _ hw380_0)).trans hw380_0), ((HB.out.cell (World.block_lt_of_cell? w _ hw380_1)).trans hw380_1)⟩ (fun hHeld => ?_)
                              clear hK K
                              refine norm_ (a' := ?_) ?_ ?_
                              rotate_left
                              · show Act.put _ (some 73) _ = _
                                simp only [Act.put, List.setIfInBounds_toArray, List.set_cons_zero, List.set_cons_succ, i64_w, i32_w]
                                rfl
                              refine pz (i := 13) (N := some 60) #[true, true, true, true, true, true, true, true, true, true, true, true, true, true, false, false, true, false, false] rfl rfl (any_of HT_.out (by kernel_rfl)) (fun _ _ _ h => h) ?_
                              refine pz (i := 14) (N := some 74) #[true, true, true, true, true, true, true, true, true, true, true, true, true, true, true, false, true, false, false] rfl rfl (any_of HT_.out (by kernel_rfl)) (fun _ _ _ h => h) ?_
                              refine pz (i := 15) (N := some 75) #[true, true, true, true, true, true, true, true, true, true, true, true, true, true, true, true, true, false, false] rfl rfl (any_of HT_.out (by kernel_rfl)) (fun _ _ _ h => h) ?_
                              exact norm_ (by simp only [putAll, Act.put, List.setIfInBounds_toArray, List.set_cons_zero, List.set_cons_succ]) (hCont (gb386) _ ⟨hHeld, (bq BK374), (bq BK378), (bq BK386), GW386.out, GE386.out, NB374_386.out, NB386_374.out, NB378_386.out, NB386_378.out, (hq HB)⟩)
                          · skip
                            refine box_step ?hg (N := 9) ?hd (cs := #[.int .i64 0, .int .u64 0]) (t := 35) ?hr ?_; (case hd => rfl); (case hg => rfl); (case hr => first | (go_simp; done) | (go_simp; rfl))
                            intro gb386 hg w28 hbox hb
                            have BK386 := Aside0.mk (hbox)
                            have GW386 := ge HB hg
                            have GE386 := ge HB hg
                            have NB374_386 := nl BK374 hg
                            have NB386_374 := ng NB374_386
                            have NB378_386 := nl BK378 hg
                            have NB386_378 := ng NB378_386
                            replace BK374 := bb BK374 hb
                            replace BK378 := bb BK378 hb
                            replace HB := bs HB hb
                            clear hb hbox hg
                            refine hK.out _ _ ⟨((HB.out.cell (World.block_lt_of_cell? w _ hw379_0)).trans hw379_0), ((HB.out.cell (World.block_lt_of_cell? w _ hw379_1)).trans hw379_1), ((HB.out.cell (World.block_lt_of_cell? w _ hw380_0)).trans hw380_0), ((HB.out.cell (World.block_lt_of_cell? w _ hw380_1)).trans hw380_1)⟩ (fun hHeld => ?_)
                            clear hK K
                            refine norm_ (a' := ?_) ?_ ?_
                            rotate_left
                            · show Act.put _ (some 9) _ = _
                              simp only [Act.put, List.setIfInBounds_toArray, List.set_cons_zero, List.set_cons_succ, i64_w, i32_w]
                              rfl
                            refine one_ (i := 10) (N := some 71) #[true, true, true, true, true, true, true, true, true, true, true, true, false, false, false, false, true, false, false] rfl rfl (one_of HT_.out (by kernel_rfl)) (by decide) (fun K hK => ?_)
                            refine goes_ Try.func47 (by kernel_rfl) rfl #[.int .i64 ((rd_T43 l0 x8_3).f0), .int .i64 ((rd_T43 l0 x8_3).f1)] (by rfl) rfl rfl zm ?_
                            with_reducible refine (corebankref01_Mul.calls k3 ((rd_T43 l0 x8_3).f0) ((rd_T43 l0 x8_3).f1) t381 t382 _ A24.out).mono ?_
                            rintro e w29 ⟨rfl, hb⟩
                            refine ⟨_, rfl, ?_⟩
                            replace BK374 := bb BK374 hb
                            replace BK378 := bb BK378 hb
                            replace BK386 := bb BK386 hb
                            replace HB := bs HB hb
                            (try clear hb)
                            (try clear hb2)
                            (try clear hk)
                            (try clear hi)
                            refine hK.out _ _ ⟨((HB.out.cell (World.block_lt_of_cell? w _ hw379_0)).trans hw379_0), ((HB.out.cell (World.block_lt_of_cell? w _ hw379_1)).trans hw379_1), ((HB.out.cell (World.block_lt_of_cell? w _ hw380_0)).trans hw380_0), ((HB.out.cell (World.block_lt_of_cell? w _ hw380_1)).trans hw380_1)⟩ (fun hHeld => ?_)
                            clear hK K
                            refine norm_ (a' := ?_) ?_ ?_
                            rotate_left
                            · show Act.put _ (some 71) _ = _
                              simp only [Act.put, List.setIfInBounds_toArray, List.set_cons_zero, List.set_cons_succ, i64_w, i32_w]
                              rfl
                            refine one_ (i := 12) (N := some 73) #[true, true, true, true, true, true, true, true, true, true, true, true, true, false, false, false, true, false, false] rfl rfl (one_of HT_.out (by kernel_rfl)) (by decide) (fun K hK => ?_)
                            refine goes_ Try.func46 (by kernel_rfl) rfl #[.agg #[.int .i64 t381, .int .u64 t382], .int .i64 a1] (by rfl) rfl rfl zm ?_
                            with_reducible refine (corebankref01_Scale.calls k3 t381 t382 a1 t383 t384 t385 _ A25.out).mono ?_
                            rintro e w30 ⟨rfl, hb⟩
                            refine ⟨_, rfl, ?_⟩
                            replace BK374 := bb BK374 hb
                            replace BK378 := bb BK378 hb
                            replace BK386 := bb BK386 hb
                            replace HB := bs HB hb
                            (try clear hb)
                            (try clear hb2)
                            (try clear hk)
                            (try clear hi)
                            refine hK.out _ _ ⟨((HB.out.cell (World.block_lt_of_cell? w _ hw379_0)).trans hw379_0), ((HB.out.cell (World.block_lt_of_cell? w _ hw379_1)).trans hw379_1), ((HB.out.cell (World.block_lt_of_cell? w _ hw380_0)).trans hw380_0), ((HB.out.cell (World.block_lt_of_cell? w _ hw380_1)).trans hw380_1)⟩ (fun hHeld => ?_)
                            clear hK K
                            refine norm_ (a' := ?_) ?_ ?_
                            rotate_left
                            · show Act.put _ (some 73) _ = _
                              simp only [Act.put, List.setIfInBounds_toArray, List.set_cons_zero, List.set_cons_succ, i64_w, i32_w]
                              rfl
                            refine pz (i := 13) (N := some 60) #[true, true, true, true, true, true, true, true, true, true, true, true, true, true, false, false, true, false, false] rfl rfl (any_of HT_.out (by kernel_rfl)) (fun _ _ _ h => h) ?_
                            refine pz (i := 14) (N := some 74) #[true, true, true, true, true, true, true, true, true, true, true, true, true, true, true, false, true, false, false] rfl rfl (any_of HT_.out (by kernel_rfl)) (fun _ _ _ h => h) ?_
                            refine pz (i := 15) (N := some 75) #[true, true, true, true, true, true, true, true, true, true, true, true, true, true, true, true, true, false, false] rfl rfl (any_of HT_.out (by kernel_rfl)) (fun _ _ _ h => h) ?_
                            exact norm_ (by simp only [putAll, Act.put, List.setIfInBounds_toArray, List.set_cons_zero, List.set_cons_succ]) (hCont (gb386) _ ⟨hHeld, (bq BK374), (bq BK378), (bq BK386), GW386.out, GE386.out, NB374_386.out, NB386_374.out, NB378_386.out, NB386_378.out, (hq HB)⟩)
                        rintro gb386 w31 ⟨hS_, h0_, h1_, h2_, h3_, h4_, h5_, h6_, h7_, h8_, h9_⟩
                        have BK386 : Aside0 (w31.heap[gb386]? = some (.cells #[.int .i64 0, .int .u64 0] 35 (0, 0))) := ⟨h2_⟩
                        have GW386 : Aside0 (w.heap.size ≤ gb386) := ⟨h3_⟩
                        have GE386 : Aside0 (w.heap.size ≤ gb386) := ⟨h4_⟩
                        have NB374_386 : Aside0 (gb374 ≠ gb386) := ⟨h5_⟩
                        have NB386_374 : Aside0 (gb386 ≠ gb374) := ⟨h6_⟩
                        have NB378_386 : Aside0 (gb378 ≠ gb386) := ⟨h7_⟩
                        have NB386_378 : Aside0 (gb386 ≠ gb378) := ⟨h8_⟩
                        replace BK374 : Aside0 (w31.heap[gb374]? = some (.cells #[.int .i64 x375000_1, .int .u64 x375001_1] 35 (0, 0))) := ⟨h0_⟩
                        replace BK378 : Aside0 (w31.heap[gb378]? = some (.cells #[.int .i64 x379000_3, .int .u64 x379001_3] 35 (0, 0))) := ⟨h1_⟩
                        replace HB : Aside0 (Below w.heap.size w w31) := ⟨h9_⟩
                        clear h0_ h1_ h2_ h3_ h4_ h5_ h6_ h7_ h8_ h9_
                        have hHeld : w31.cell? (ad379.add ((x8_3).toNat * 2)) = some (.int .i64 ((rd_T43 l0 x8_3).f0)) ∧ w31.cell? ⟨(ad379.add ((x8_3).toNat * 2)).block, (ad379.add ((x8_3).toNat * 2)).off + 1, none⟩ = some (.int .i64 ((rd_T43 l0 x8_3).f1)) ∧ w31.cell? (ad379.add ((x8_3).toNat * 2)) = some (.int .i64 ((rd_T43 l0 x8_3).f0)) ∧ w31.cell? ⟨(ad379.add ((x8_3).toNat * 2)).block, (ad379.add ((x8_3).toNat * 2)).off + 1, none⟩ = some (.int .i64 ((rd_T43 l0 x8_3).f1)) := hS_
                        refine norm_ (a' := ?_) ?_ ?_
                        rotate_left
                        · simp only [putAll, Act.put, List.setIfInBounds_toArray, List.set_cons_zero, List.set_cons_succ]
                          rfl
                        refine one_ (i := 17) (N := none) #[true, true, true, true, true, true, true, true, true, true, true, true, true, true, true, true, true, true, false] rfl rfl (one_of HT_.out (by kernel_rfl)) (by decide) (fun K hK => ?_)
                        have hs32 : w31.cell? ⟨gb386, 0, none⟩ = some (.int .i64 0) := (blk_cell BK386.out 0).trans rfl
                        have hfs32 := blk_frozen BK386.out 0
                        have hns32_0 := NB374_386.out
                        have hns32_1 := NB378_386.out
                        have hms32_0 := NB386_374.out
                        have hms32_1 := NB386_378.out
                        have hs33 : w31.cell? ⟨gb386, 1, none⟩ = some (.int .u64 0) := (blk_cell BK386.out 1).trans rfl
                        have hfs33 := blk_frozen BK386.out 1
                        have hns33_0 := NB374_386.out
                        have hns33_1 := NB378_386.out
                        have hms33_0 := NB386_374.out
                        have hms33_1 := NB386_378.out
                        refine skip_ (w1 := ?_) (by rfl) rfl ?_ ?_
                        rotate_left
                        · go_simp
                          rfl
                        refine hK.out _ _ ⟨((cell_far (p := ⟨gb386, _, none⟩) (by first | exact Nat.ne_of_lt (Nat.lt_of_lt_of_le (by have := World.block_lt_of_cell? _ _ hw379_0; first | rwa [add_block] at this | exact this) GW386.out) | (rw [add_block]; exact Nat.ne_of_lt (Nat.lt_of_lt_of_le (by have := World.block_lt_of_cell? _ _ hw379_0; first | rwa [add_block] at this | exact this) GW386.out)) | (show (Addr.add _ _).block ≠ _; rw [add_block]; exact Nat.ne_of_lt (Nat.lt_of_lt_of_le (by have := World.block_lt_of_cell? _ _ hw379_0; first | rwa [add_block] at this | exact this) GW386.out)) | (dsimp only; exact Nat.ne_of_lt (Nat.lt_of_lt_of_le (by have := World.block_lt_of_cell? _ _ hw379_0; first | rwa [add_block] at this | exact this) GW386.out))) _).trans (((cell_far (p := ⟨gb386, _, none⟩) (by first | exact Nat.ne_of_lt (Nat.lt_of_lt_of_le (by have := World.block_lt_of_cell? _ _ hw379_0; first | rwa [add_block] at this | exact this) GW386.out) | (rw [add_block]; exact Nat.ne_of_lt (Nat.lt_of_lt_of_le (by have := World.block_lt_of_cell? _ _ hw379_0; first | rwa [add_block] at this | exact this) GW386.out)) | (show (Addr.add _ _).block ≠ _; rw [add_block]; exact Nat.ne_of_lt (Nat.lt_of_lt_of_le (by have := World.block_lt_of_cell? _ _ hw379_0; first | rwa [add_block] at this | exact this) GW386.out)) | (dsimp only; exact Nat.ne_of_lt (Nat.lt_of_lt_of_le (by have := World.block_lt_of_cell? _ _ hw379_0; first | rwa [add_block] at this | exact this) GW386.out))) _).trans (hHeld.1)))), ((cell_far (p := ⟨gb386, _, none⟩) (by first | exact Nat.ne_of_lt (Nat.lt_of_lt_of_le (by have := World.block_lt_of_cell? _ _ hw379_1; first | rwa [add_block] at this | exact this) GW386.out) | (rw [add_block]; exact Nat.ne_of_lt (Nat.lt_of_lt_of_le (by have := World.block_lt_of_cell? _ _ hw379_1; first | rwa [add_block] at this | exact this) GW386.out)) | (show (Addr.add _ _).block ≠ _; rw [add_block]; exact Nat.ne_of_lt (Nat.lt_of_lt_of_le (by have := World.block_lt_of_cell? _ _ hw379_1; first | rwa [add_block] at this | exact this) GW386.out)) | (dsimp only; exact Nat.ne_of_lt (Nat.lt_of_lt_of_le (by have := World.block_lt_of_cell? _ _ hw379_1; first | rwa [add_block] at this | exact this) GW386.out))) _).trans (((cell_far (p := ⟨gb386, _, none⟩) (by first | exact Nat.ne_of_lt (Nat.lt_of_lt_of_le (by have := World.block_lt_of_cell? _ _ hw379_1; first | rwa [add_block] at this | exact this) GW386.out) | (rw [add_block]; exact Nat.ne_of_lt (Nat.lt_of_lt_of_le (by have := World.block_lt_of_cell? _ _ hw379_1; first | rwa [add_block] at this | exact this) GW386.out)) | (show (Addr.add _ _).block ≠ _; rw [add_block]; exact Nat.ne_of_lt (Nat.lt_of_lt_of_le (by have := World.block_lt_of_cell? _ _ hw379_1; first | rwa [add_block] at this | exact this) GW386.out)) | (dsimp only; exact Nat.ne_of_lt (Nat.lt_of_lt_of_le (by have := World.block_lt_of_cell? _ _ hw379_1; first | rwa [add_block] at this | exact this) GW386.out))) _).trans (hHeld.2.1)))), ((cell_far (p := ⟨gb386, _, none⟩) (by first | exact Nat.ne_of_lt (Nat.lt_of_lt_of_le (by have := World.block_lt_of_cell? _ _ hw380_0; first | rwa [add_block] at this | exact this) GW386.out) | (rw [add_block]; exact Nat.ne_of_lt (Nat.lt_of_lt_of_le (by have := World.block_lt_of_cell? _ _ hw380_0; first | rwa [add_block] at this | exact this) GW386.out)) | (show (Addr.add _ _).block ≠ _; rw [add_block]; exact Nat.ne_of_lt (Nat.lt_of_lt_of_le (by have := World.block_lt_of_cell? _ _ hw380_0; first | rwa [add_block] at this | exact this) GW386.out)) | (dsimp only; exact Nat.ne_of_lt (Nat.lt_of_lt_of_le (by have := World.block_lt_of_cell? _ _ hw380_0; first | rwa [add_block] at this | exact this) GW386.out))) _).trans (((cell_far (p := ⟨gb386, _, none⟩) (by first | exact Nat.ne_of_lt (Nat.lt_of_lt_of_le (by have := World.block_lt_of_cell? _ _ hw380_0; first | rwa [add_block] at this | exact this) GW386.out) | (rw [add_block]; exact Nat.ne_of_lt (Nat.lt_of_lt_of_le (by have := World.block_lt_of_cell? _ _ hw380_0; first | rwa [add_block] at this | exact this) GW386.out)) | (show (Addr.add _ _).block ≠ _; rw [add_block]; exact Nat.ne_of_lt (Nat.lt_of_lt_of_le (by have := World.block_lt_of_cell? _ _ hw380_0; first | rwa [add_block] at this | exact this) GW386.out)) | (dsimp only; exact Nat.ne_of_lt (Nat.lt_of_lt_of_le (by have := World.block_lt_of_cell? _ _ hw380_0; first | rwa [add_block] at this | exact this) GW386.out))) _).trans (hHeld.2.2.1)))), ((cell_far (p := ⟨gb386, _, none⟩) (by first | exact Nat.ne_of_lt (Nat.lt_of_lt_of_le (by have := World.block_lt_of_cell? _ _ hw380_1; first | rwa [add_block] at this | exact this) GW386.out) | (rw [add_block]; exact Nat.ne_of_lt (Nat.lt_of_lt_of_le (by have := World.block_lt_of_cell? _ _ hw380_1; first | rwa [add_block] at this | exact this) GW386.out)) | (show (Addr.add _ _).block ≠ _; rw [add_block]; exact Nat.ne_of_lt (Nat.lt_of_lt_of_le (by have := World.block_lt_of_cell? _ _ hw380_1; first | rwa [add_block] at this | exact this) GW386.out)) | (dsimp only; exact Nat.ne_of_lt (Nat.lt_of_lt_of_le (by have := World.block_lt_of_cell? _ _ hw380_1; first | rwa [add_block] at this | exact this) GW386.out))) _).trans (((cell_far (p := ⟨gb386, _, none⟩) (by first | exact Nat.ne_of_lt (Nat.lt_of_lt_of_le (by have := World.block_lt_of_cell? _ _ hw380_1; first | rwa [add_block] at this | exact this) GW386.out) | (rw [add_block]; exact Nat.ne_of_lt (Nat.lt_of_lt_of_le (by have := World.block_lt_of_cell? _ _ hw380_1; first | rwa [add_block] at this | exact this) GW386.out)) | (show (Addr.add _ _).block ≠ _; rw [add_block]; exact Nat.ne_of_lt (Nat.lt_of_lt_of_le (by have := World.block_lt_of_cell? _ _ hw380_1; first | rwa [add_block] at this | exact this) GW386.out)) | (dsimp only; exact Nat.ne_of_lt (Nat.lt_of_lt_of_le (by have := World.block_lt_of_cell? _ _ hw380_1; first | rwa [add_block] at this | exact this) GW386.out))) _).trans (hHeld.2.2.2))))⟩ (fun hHeld => ?_)
                        clear hK K
                        refine pz (i := 18) (N := some 10) #[true, true, true, true, true, true, true, true, true, true, true, true, true, true, true, true, true, true, true] rfl rfl (any_of HT_.out (by kernel_rfl)) (fun _ _ _ h => h) ?_
                        refine done_ (done_of HT_.out (by kernel_rfl)) ?_
                        have hnb34 := NB378_374.out
                        have hnc34 := NB374_378.out
                        have hnb35 := NB378_386.out
                        have hnc35 := NB386_378.out
                        obtain ⟨hcz36_0, hcz36_1, hfz36_0, hfz36_1⟩ := cz2 BK378
                        have hnb37 := NB386_374.out
                        have hnc37 := NB374_386.out
                        obtain ⟨hcz38_0, hcz38_1, hfz38_0, hfz38_1⟩ := cz2 BK386
                        try go_wp2_with (first | ((with_reducible refine gate_callee (f := 28) rfl ?_); refine goesL_ (some 79) rfl rfl Try.func28 (by kernel_rfl) rfl #[.agg #[.int .i64 x379000_3, .int .u64 x379001_3], .agg #[.int .i64 t383, .int .u64 t384]] rfl zm ?_; (with_reducible refine (corebankref01_Add.calls x379000_3 x379001_3 t383 t384 t387 t388 t389 _ A26.out).mono ?_); rintro e w39 ⟨rfl, hb⟩; refine ⟨_, rfl, ?_⟩; replace BK374 := bb BK374 hb; replace BK378 := bb BK378 hb; replace BK386 := bpb BK386 hb #[.int .i64 t383, .int .u64 t384]; replace HB := bs HB hb; (try clear hb); (try clear hb2); (try clear hk); (try clear hi)) | ((with_reducible refine gate_dst (N := 11) rfl ?_); refine box_event ?hg (N := 11) ?hd (cs := #[.int .i64 0, .int .u64 0]) (t := 35) ?hr ?_; (case hd => rfl); (case hg => rfl); (case hr => first | (go_simp; done) | (go_simp; rfl)); intro gb390 hg w40 hbox hb; have BK390 := Aside0.mk (hbox); have GW390 := ge HB hg; have GE390 := ge HB hg; have NB374_390 := nl BK374 hg; have NB390_374 := ng NB374_390; have NB378_390 := nl BK378 hg; have NB390_378 := ng NB378_390; have NB386_390 := nl BK386 hg; have NB390_386 := ng NB386_390; replace BK374 := bb BK374 hb; replace BK378 := bb BK378 hb; replace BK386 := bb BK386 hb; replace HB := bs HB hb; clear hb hbox hg; have hnb41 := NB390_374.out; have hnc41 := NB374_390.out; have hnb42 := NB390_378.out; have hnc42 := NB378_390.out; have hnb43 := NB390_386.out; have hnc43 := NB386_390.out; obtain ⟨hcz44_0, hcz44_1, hfz44_0, hfz44_1⟩ := cz2 BK390; obtain ⟨hcz45_0, hcz45_1, hfz45_0, hfz45_1⟩ := cz2 BK378))
                        go_roundg k3
                        case measure => have := HK1.out; have := HJ14.out; have := HK3.out; omega
                        case rel => exact ⟨(wrap64 (x8_3 + 1)), (t387), (t388), (by first | rfl | (simp; done) | (simp [*]; done)), H', ⟨by have := HK1.out; have := HJ14.out; have := HK3.out; omega⟩, ⟨bq BK374⟩, ⟨bp BK378⟩, ⟨hq HB⟩⟩
                      · rw [if_neg c23] at H
                        exact absurd H (by simp)
                    · rw [if_neg c22] at H
                      have c22b0 : decide (x8_3 < (l0.length : Int)) = false := decide_eq_false c22
                      clear c22
                      simp only [Option.some.injEq, Prod.mk.injEq] at H
                      obtain ⟨rfl, rfl, rfl⟩ := H
                      have hnb46 := NB378_374.out
                      have hnc46 := NB374_378.out
                      obtain ⟨hcz47_0, hcz47_1, hfz47_0, hfz47_1⟩ := cz2 BK378
                      obtain ⟨hcz48_0, hcz48_1, hfz48_0, hfz48_1⟩ := cz2 BK374
                      go_wp2
                      refine bodyPost_ret (results_ct rfl _ _ gb374 35 #[.int .i64 x379000_3, .int .u64 x379001_3] (0, 0) _ rfl (bp BK374) Try.underlying35 rfl (by kernel_rfl)) rfl ?_
                      exact ⟨by first | rfl | (simp [errW_none, errW_some] <;> rfl) | (simp [*, errW_none, errW_some] <;> rfl), hq HB⟩

end Go.Proofs.Ytlmabdiodopidaa.P
end
section
set_option linter.unusedVariables false
set_option linter.unusedSimpArgs false
namespace Go.Proofs.Ytlmabdiodopidaa.P
open Go.Proofs.Ytlmabdiodopidaa.G
attribute [local go_sem high] un_not64 un_noti run_add64
open Go.RowKit Go.Proofs.YtlmabdiodopidaaW.PrintWords Go.Proofs.YtlmabdiodopidaaW.PrintLast Go.Proofs.YtlmabdiodopidaaW.PrintMore
attribute [local go_sem] max2_int min2_int max_two min_two max_three min_three max_four min_four   -- for this text's walks alone
set_option linter.unusedVariables false
set_option linter.unusedSimpArgs false

theorem eqA66 (d : Nat) (w : World) (x0 y0 : Int) (x1 y1 : Int) (x2 y2 : Int) (x3 y3 : Int) (x4 y4 : Int) (x5 y5 : Int) (x6 y6 : Int) :
    (Op.equalIn (d + 3) 66 (.agg #[.int .i64 x0, .int .i64 x1, .int .i64 x2, .int .i64 x3, .int .u64 x4, .int .i64 x5, .int .u64 x6]) (.agg #[.int .i64 y0, .int .i64 y1, .int .i64 y2, .int .i64 y3, .int .u64 y4, .int .i64 y5, .int .u64 y6])).run Try.prog w = .ok (x0 == y0 && (x1 == y1 && (x2 == y2 && ((x3 == y3 && (x4 == y4)) && ((x5 == y5 && (x6 == y6))))))) w := by
  refine eqA_of Try.underlying66 (by kernel_rfl) ?_
  refine eqf_cons (by rfl) (by go_simp; rfl) (by go_simp; rfl) (by go_simp) ?_
  refine eqf_cons (by rfl) (by go_simp; rfl) (by go_simp; rfl) (by go_simp) ?_
  refine eqf_cons (by rfl) (by go_simp; rfl) (by go_simp; rfl) (by go_simp) ?_
  refine eqf_cons (by rfl) (by go_simp) (by go_simp) (eqA35 (d + 0) w _ _ _ _) ?_
  exact eqf_last (by rfl) (by go_simp) (by go_simp) (eqA35 (d + 0) w _ _ _ _)
end Go.Proofs.Ytlmabdiodopidaa.P
end
section
set_option linter.unusedVariables false
set_option linter.unusedSimpArgs false
namespace Go.Proofs.Ytlmabdiodopidaa.P
open Go.Proofs.Ytlmabdiodopidaa.G
attribute [local go_sem high] un_not64 un_noti run_add64
open Go.RowKit Go.Proofs.YtlmabdiodopidaaW.PrintWords Go.Proofs.YtlmabdiodopidaaW.PrintLast Go.Proofs.YtlmabdiodopidaaW.PrintMore
attribute [local go_sem] max2_int min2_int max_two min_two max_three min_three max_four min_four   -- for this text's walks alone
set_option linter.unusedVariables false
set_option linter.unusedSimpArgs false

/-! ### corebankref04_Length: function 93 -/
mutual
def corebankref04_Length.j0 : Nat → Int → Int → Bool → Option (Int)
  | 0, _, _, _ => none
  | k + 1, x0, x5, x6 => if x6 = true then (some 31) else (if x5 = 4 then (corebankref04_Length.j1 k x0 x5 (x5 == 4)) else (if x5 = 6 then (corebankref04_Length.j1 k x0 x5 (x5 == 6)) else (if x5 = 9 then (corebankref04_Length.j1 k x0 x5 (x5 == 9)) else (corebankref04_Length.j1 k x0 x5 (x5 == 11)))))
def corebankref04_Length.j1 : Nat → Int → Int → Bool → Option (Int)
  | 0, _, _, _ => none
  | k + 1, x0, x5, x14 => if x14 = true then (some 30) else (if x5 = 2 then ((corebankref04_Leap.f x0).bind fun t121 => (if t121 = true then (some 29) else (some 28))) else (some 0))
end
def corebankref04_Length.f (k : Nat) (a0 : Int) (a1 : Int) : Option (Int) := if a1 = 1 then (corebankref04_Length.j0 k a0 a1 (a1 == 1)) else (if a1 = 3 then (corebankref04_Length.j0 k a0 a1 (a1 == 3)) else (if a1 = 5 then (corebankref04_Length.j0 k a0 a1 (a1 == 5)) else (if a1 = 7 then (corebankref04_Length.j0 k a0 a1 (a1 == 7)) else (if a1 = 8 then (corebankref04_Length.j0 k a0 a1 (a1 == 8)) else (if a1 = 10 then (corebankref04_Length.j0 k a0 a1 (a1 == 10)) else (corebankref04_Length.j0 k a0 a1 (a1 == 12)))))))
theorem corebankref04_Length.mono_l : ∀ k, (∀ y0 y1 y2, LeO (corebankref04_Length.j0 k y0 y1 y2) (corebankref04_Length.j0 (k + 1) y0 y1 y2)) ∧ (∀ y0 y1 y2, LeO (corebankref04_Length.j1 k y0 y1 y2) (corebankref04_Length.j1 (k + 1) y0 y1 y2))
  | 0 => ⟨fun _ _ _ r h => by simp [corebankref04_Length.j0] at h, fun _ _ _ r h => by simp [corebankref04_Length.j1] at h⟩
  | k + 1 => by
    obtain ⟨ih0, ih1⟩ := corebankref04_Length.mono_l k
    refine ⟨?_, ?_⟩
    · intro y0 y1 y2
      unfold corebankref04_Length.j0
      repeat' first
      | (with_reducible exact ih0 _ _ _)
      | (with_reducible exact ih1 _ _ _)
      | (with_reducible exact LeO.refl _)
      | (with_reducible exact LeO.none _)
      | (with_reducible refine LeO.ite ?_ ?_)
      | (with_reducible refine LeO.bind ?_ (fun _ => ?_))
      | exact ih0 _ _ _
      | exact ih1 _ _ _
      | exact LeO.none _
      | refine LeO.ite ?_ ?_
      | refine LeO.bind ?_ (fun _ => ?_)
    · intro y0 y1 y2
      unfold corebankref04_Length.j1
      repeat' first
      | (with_reducible exact ih0 _ _ _)
      | (with_reducible exact ih1 _ _ _)
      | (with_reducible exact LeO.refl _)
      | (with_reducible exact LeO.none _)
      | (with_reducible refine LeO.ite ?_ ?_)
      | (with_reducible refine LeO.bind ?_ (fun _ => ?_))
      | exact ih0 _ _ _
      | exact ih1 _ _ _
      | exact LeO.none _
      | refine LeO.ite ?_ ?_
      | refine LeO.bind ?_ (fun _ => ?_)
theorem corebankref04_Length.mono : ∀ a0 a1 k, LeO (corebankref04_Length.f k a0 a1) (corebankref04_Length.f (k + 1) a0 a1) := by
  intro a0 a1 k
  obtain ⟨ih0, ih1⟩ := corebankref04_Length.mono_l k
  unfold corebankref04_Length.f
  repeat' first
      | (with_reducible exact ih0 _ _ _)
      | (with_reducible exact ih1 _ _ _)
      | (with_reducible exact LeO.refl _)
      | (with_reducible exact LeO.none _)
      | (with_reducible refine LeO.ite ?_ ?_)
      | (with_reducible refine LeO.bind ?_ (fun _ => ?_))
      | exact ih0 _ _ _
      | exact ih1 _ _ _
      | exact LeO.none _
      | refine LeO.ite ?_ ?_
      | refine LeO.bind ?_ (fun _ => ?_)
set_option maxHeartbeats 8000000 in
set_option maxRecDepth 100000 in
theorem corebankref04_Length.calls (k : Nat) (a0 : Int) (a1 : Int) (r : Int) (w : World) (h : corebankref04_Length.f k a0 a1 = some r) :
    Calls Try.prog 93 #[.int .i64 a0, .int .i64 a1] w fun e w' => e = .returned (.int .i64 r) ∧ Drawn0 w w' := by
  have H : (if a1 = 1 then (corebankref04_Length.j0 k a0 a1 (a1 == 1)) else (if a1 = 3 then (corebankref04_Length.j0 k a0 a1 (a1 == 3)) else (if a1 = 5 then (corebankref04_Length.j0 k a0 a1 (a1 == 5)) else (if a1 = 7 then (corebankref04_Length.j0 k a0 a1 (a1 == 7)) else (if a1 = 8 then (corebankref04_Length.j0 k a0 a1 (a1 == 8)) else (if a1 = 10 then (corebankref04_Length.j0 k a0 a1 (a1 == 10)) else (corebankref04_Length.j0 k a0 a1 (a1 == 12)))))))) = some r := h
  clear h
  have HC3 := Aside0.mk H
  clear H
  go_enter Try.func93, Try.ntmps93
  go_upto_if 6 with (fail)
  go_cut [6] (fun v6 wc => ∃ (kq : Nat) (x6_2 : Bool), v6 = .bool x6_2 ∧ Aside0 (corebankref04_Length.j0 kq a0 a1 x6_2 = some r) ∧ Aside0 (kq ≤ k) ∧ Drawn0 w wc)
  case first =>
    have H := HC3.out
    clear HC3
    by_cases c4 : a1 = 1
    · rw [if_pos c4] at H
      have c4b0 : (a1 == 1) = true := beq_iff_eq.mpr c4
      have c4b1 : (a1 != 1) = false := bne_eq_false_iff_eq.mpr c4
      clear c4
      (first | rw [c4b0] | (simp only [i64_w, i32_w]; rw [c4b0]) | skip)
      have H' := Aside0.mk H
      clear H
      go_wp2
      go_meet
      case rel => exact ⟨_, ((a1 == 1)), (by first | rfl | (simp; done) | (simp [*]; done)), H', ⟨by first | omega | exact Nat.le_refl _⟩, by repeat (first | exact Drawn0.refl _ | apply Drawn0.step)⟩
    · rw [if_neg c4] at H
      have c4b0 : (a1 == 1) = false := beq_eq_false_iff_ne.mpr c4
      have c4b1 : (a1 != 1) = true := bne_iff_ne.mpr c4
      (first | rw [c4b0] | (simp only [i64_w, i32_w]; rw [c4b0]) | skip)
      by_cases c5 : a1 = 3
      · rw [if_pos c5] at H
        have c5b0 : (a1 == 3) = true := beq_iff_eq.mpr c5
        have c5b1 : (a1 != 3) = false := bne_eq_false_iff_eq.mpr c5
        clear c5
        have H' := Aside0.mk H
        clear H
        go_wp2
        go_meet
        case rel => exact ⟨_, ((a1 == 3)), (by first | rfl | (simp; done) | (simp [*]; done)), H', ⟨by first | omega | exact Nat.le_refl _⟩, by repeat (first | exact Drawn0.refl _ | apply Drawn0.step)⟩
      · rw [if_neg c5] at H
        have c5b0 : (a1 == 3) = false := beq_eq_false_iff_ne.mpr c5
        have c5b1 : (a1 != 3) = true := bne_iff_ne.mpr c5
        by_cases c6 : a1 = 5
        · rw [if_pos c6] at H
          have c6b0 : (a1 == 5) = true := beq_iff_eq.mpr c6
          have c6b1 : (a1 != 5) = false := bne_eq_false_iff_eq.mpr c6
          clear c6
          have H' := Aside0.mk H
          clear H
          go_wp2
          go_meet
          case rel => exact ⟨_, ((a1 == 5)), (by first | rfl | (simp; done) | (simp [*]; done)), H', ⟨by first | omega | exact Nat.le_refl _⟩, by repeat (first | exact Drawn0.refl _ | apply Drawn0.step)⟩
        · rw [if_neg c6] at H
          have c6b0 : (a1 == 5) = false := beq_eq_false_iff_ne.mpr c6
          have c6b1 : (a1 != 5) = true := bne_iff_ne.mpr c6
          by_cases c7 : a1 = 7
          · rw [if_pos c7] at H
            have c7b0 : (a1 == 7) = true := beq_iff_eq.mpr c7
            have c7b1 : (a1 != 7) = false := bne_eq_false_iff_eq.mpr c7
            clear c7
            have H' := Aside0.mk H
            clear H
            go_wp2
            go_meet
            case rel => exact ⟨_, ((a1 == 7)), (by first | rfl | (simp; done) | (simp [*]; done)), H', ⟨by first | omega | exact Nat.le_refl _⟩, by repeat (first | exact Drawn0.refl _ | apply Drawn0.step)⟩
          · rw [if_neg c7] at H
            have c7b0 : (a1 == 7) = false := beq_eq_false_iff_ne.mpr c7
            have c7b1 : (a1 != 7) = true := bne_iff_ne.mpr c7
            by_cases c8 : a1 = 8
            · rw [if_pos c8] at H
              have c8b0 : (a1 == 8) = true := beq_iff_eq.mpr c8
              have c8b1 : (a1 != 8) = false := bne_eq_false_iff_eq.mpr c8
              clear c8
              have H' := Aside0.mk H
              clear H
              go_wp2
              go_meet
              case rel => exact ⟨_, ((a1 == 8)), (by first | rfl | (simp; done) | (simp [*]; done)), H', ⟨by first | omega | exact Nat.le_refl _⟩, by repeat (first | exact Drawn0.refl _ | apply Drawn0.step)⟩
            · rw [if_neg c8] at H
              have c8b0 : (a1 == 8) = false := beq_eq_false_iff_ne.mpr c8
              have c8b1 : (a1 != 8) = true := bne_iff_ne.mpr c8
              by_cases c9 : a1 = 10
              · rw [if_pos c9] at H
                have c9b0 : (a1 == 10) = true := beq_iff_eq.mpr c9
                have c9b1 : (a1 != 10) = false := bne_eq_false_iff_eq.mpr c9
                clear c9
                have H' := Aside0.mk H
                clear H
                go_wp2
                go_meet
                case rel => exact ⟨_, ((a1 == 10)), (by first | rfl | (simp; done) | (simp [*]; done)), H', ⟨by first | omega | exact Nat.le_refl _⟩, by repeat (first | exact Drawn0.refl _ | apply Drawn0.step)⟩
              · rw [if_neg c9] at H
                have c9b0 : (a1 == 10) = false := beq_eq_false_iff_ne.mpr c9
                have c9b1 : (a1 != 10) = true := bne_iff_ne.mpr c9
                have H' := Aside0.mk H
                clear H
                go_wp2
                go_meet
                case rel => exact ⟨_, ((a1 == 12)), (by first | rfl | (simp; done) | (simp [*]; done)), H', ⟨by first | omega | exact Nat.le_refl _⟩, by repeat (first | exact Drawn0.refl _ | apply Drawn0.step)⟩
  case rest =>
    clear HC3
    try clear p2
    try clear c4
    try clear c4b0
    try clear c4b1
    try clear c5
    try clear c5b0
    try clear c5b1
    try clear c6
    try clear c6b0
    try clear c6b1
    try clear c7
    try clear c7b0
    try clear c7b1
    try clear c8
    try clear c8b0
    try clear c8b1
    try clear c9
    try clear c9b0
    try clear c9b1
    obtain ⟨kq, x6_2, rfl, HA, HJ2, ⟨mc2, rfl⟩⟩ := hcut
    cases kq with
    | zero => exact absurd HA.out (by simp [corebankref04_Length.j0])
    | succ kj2 =>
      have H := HA.out
      clear HA
      simp only [corebankref04_Length.j0] at H
      by_cases c10 : x6_2 = true
      · subst c10
        have H1 : (some 31) = some r := by rw [if_pos rfl] at H; exact H
        clear H
        have H := H1
        clear H1
        obtain rfl := Option.some.inj H
        go_wp2
        go_ret
        exact ⟨by first | rfl | (simp; done) | (simp [*]; done), by repeat (first | exact Drawn0.refl _ | apply Drawn0.step)⟩
      · replace c10 := Bool.eq_false_iff.mpr c10
        subst c10
        have H1 : (if a1 = 4 then (corebankref04_Length.j1 kj2 a0 a1 (a1 == 4)) else (if a1 = 6 then (corebankref04_Length.j1 kj2 a0 a1 (a1 == 6)) else (if a1 = 9 then (corebankref04_Length.j1 kj2 a0 a1 (a1 == 9)) else (corebankref04_Length.j1 kj2 a0 a1 (a1 == 11))))) = some r := by rw [if_neg (show ¬ (false = true) by decide)] at H; exact H
        clear H
        have H := H1
        clear H1
        have HC11 := Aside0.mk H
        clear H
        go_upto_if 14 with (fail)
        go_cut [14] (fun v14 wc => ∃ (kq : Nat) (x14_10 : Bool), v14 = .bool x14_10 ∧ Aside0 (corebankref04_Length.j1 kq a0 a1 x14_10 = some r) ∧ Aside0 (kq ≤ kj2) ∧ Drawn0 w wc)
        case first =>
          have H := HC11.out
          clear HC11
          by_cases c12 : a1 = 4
          · rw [if_pos c12] at H
            have c12b0 : (a1 == 4) = true := beq_iff_eq.mpr c12
            have c12b1 : (a1 != 4) = false := bne_eq_false_iff_eq.mpr c12
            clear c12
            (first | rw [c12b0] | (simp only [i64_w, i32_w]; rw [c12b0]) | skip)
            have H' := Aside0.mk H
            clear H
            go_wp2
            go_meet
            case rel => exact ⟨_, ((a1 == 4)), (by first | rfl | (simp; done) | (simp [*]; done)), H', ⟨by have := HJ2.out; first | omega | exact Nat.le_refl _⟩, by repeat (first | exact Drawn0.refl _ | apply Drawn0.step)⟩
          · rw [if_neg c12] at H
            have c12b0 : (a1 == 4) = false := beq_eq_false_iff_ne.mpr c12
            have c12b1 : (a1 != 4) = true := bne_iff_ne.mpr c12
            (first | rw [c12b0] | (simp only [i64_w, i32_w]; rw [c12b0]) | skip)
            by_cases c13 : a1 = 6
            · rw [if_pos c13] at H
              have c13b0 : (a1 == 6) = true := beq_iff_eq.mpr c13
              have c13b1 : (a1 != 6) = false := bne_eq_false_iff_eq.mpr c13
              clear c13
              have H' := Aside0.mk H
              clear H
              go_wp2
              go_meet
              case rel => exact ⟨_, ((a1 == 6)), (by first | rfl | (simp; done) | (simp [*]; done)), H', ⟨by have := HJ2.out; first | omega | exact Nat.le_refl _⟩, by repeat (first | exact Drawn0.refl _ | apply Drawn0.step)⟩
            · rw [if_neg c13] at H
              have c13b0 : (a1 == 6) = false := beq_eq_false_iff_ne.mpr c13
              have c13b1 : (a1 != 6) = true := bne_iff_ne.mpr c13
              by_cases c14 : a1 = 9
              · rw [if_pos c14] at H
                have c14b0 : (a1 == 9) = true := beq_iff_eq.mpr c14
                have c14b1 : (a1 != 9) = false := bne_eq_false_iff_eq.mpr c14
                clear c14
                have H' := Aside0.mk H
                clear H
                go_wp2
                go_meet
                case rel => exact ⟨_, ((a1 == 9)), (by first | rfl | (simp; done) | (simp [*]; done)), H', ⟨by have := HJ2.out; first | omega | exact Nat.le_refl _⟩, by repeat (first | exact Drawn0.refl _ | apply Drawn0.step)⟩
              · rw [if_neg c14] at H
                have c14b0 : (a1 == 9) = false := beq_eq_false_iff_ne.mpr c14
                have c14b1 : (a1 != 9) = true := bne_iff_ne.mpr c14
                have H' := Aside0.mk H
                clear H
                go_wp2
                go_meet
                case rel => exact ⟨_, ((a1 == 11)), (by first | rfl | (simp; done) | (simp [*]; done)), H', ⟨by have := HJ2.out; first | omega | exact Nat.le_refl _⟩, by repeat (first | exact Drawn0.refl _ | apply Drawn0.step)⟩
        case rest =>
          clear HC11
          try clear c1
          try clear c2
          try clear p2
          try clear c4
          try clear c4b0
          try clear c4b1
          try clear c5
          try clear c5b0
          try clear c5b1
          try clear c6
          try clear c6b0
          try clear c6b1
          try clear c7
          try clear c7b0
          try clear c7b1
          try clear c8
          try clear c8b0
          try clear c8b1
          try clear c9
          try clear c9b0
          try clear c9b1
          try clear c10
          try clear c12
          try clear c12b0
          try clear c12b1
          try clear c13
          try clear c13b0
          try clear c13b1
          try clear c14
          try clear c14b0
          try clear c14b1
          try clear p2
          obtain ⟨kq, x14_10, rfl, HA, HJ10, ⟨mc10, rfl⟩⟩ := hcut
          cases kq with
          | zero => exact absurd HA.out (by simp [corebankref04_Length.j1])
          | succ kj10 =>
            have H := HA.out
            clear HA
            simp only [corebankref04_Length.j1] at H
            by_cases c15 : x14_10 = true
            · subst c15
              have H1 : (some 30) = some r := by rw [if_pos rfl] at H; exact H
              clear H
              have H := H1
              clear H1
              obtain rfl := Option.some.inj H
              go_wp2
              go_ret
              exact ⟨by first | rfl | (simp; done) | (simp [*]; done), by repeat (first | exact Drawn0.refl _ | apply Drawn0.step)⟩
            · replace c15 := Bool.eq_false_iff.mpr c15
              subst c15
              have H1 : (if a1 = 2 then ((corebankref04_Leap.f a0).bind fun t121 => (if t121 = true then (some 29) else (some 28))) else (some 0)) = some r := by rw [if_neg (show ¬ (false = true) by decide)] at H; exact H
              clear H
              have H := H1
              clear H1
              by_cases c16 : a1 = 2
              · rw [if_pos c16] at H
                have c16b0 : (a1 == 2) = true := beq_iff_eq.mpr c16
                have c16b1 : (a1 != 2) = false := bne_eq_false_iff_eq.mpr c16
                clear c16
                replace H := Option.bind_eq_some_iff.mp H
                obtain ⟨t121, A170, H⟩ := H
                replace H : (if t121 = true then (some 29) else (some 28)) = some r := H
                have A17 := Aside0.mk A170
                clear A170
                by_cases c18 : t121 = true
                · subst c18
                  have H1 : (some 29) = some r := by rw [if_pos rfl] at H; exact H
                  clear H
                  have H := H1
                  clear H1
                  obtain rfl := Option.some.inj H
                  go_wp2_with (first | ((with_reducible refine gate_callee (f := 83) rfl ?_); refine goesL_ (some 22) rfl rfl Try.func83 (by kernel_rfl) rfl #[.int .i64 a0] rfl zm ?_; (with_reducible refine (corebankref04_Leap.calls a0 true _ A17.out).mono ?_); rintro e w' ⟨rfl, ⟨nd, rfl⟩⟩; refine ⟨_, rfl, ?_⟩))
                  go_ret
                  exact ⟨by first | rfl | (simp; done) | (simp [*]; done), by repeat (first | exact Drawn0.refl _ | apply Drawn0.step)⟩
                · replace c18 := Bool.eq_false_iff.mpr c18
                  subst c18
                  have H1 : (some 28) = some r := by rw [if_neg (show ¬ (false = true) by decide)] at H; exact H
                  clear H
                  have H := H1
                  clear H1
                  obtain rfl := Option.some.inj H
                  go_wp2_with (first | ((with_reducible refine gate_callee (f := 83) rfl ?_); refine goesL_ (some 22) rfl rfl Try.func83 (by kernel_rfl) rfl #[.int .i64 a0] rfl zm ?_; (with_reducible refine (corebankref04_Leap.calls a0 false _ A17.out).mono ?_); rintro e w' ⟨rfl, ⟨nd, rfl⟩⟩; refine ⟨_, rfl, ?_⟩))
                  go_ret
                  exact ⟨by first | rfl | (simp; done) | (simp [*]; done), by repeat (first | exact Drawn0.refl _ | apply Drawn0.step)⟩
              · rw [if_neg c16] at H
                have c16b0 : (a1 == 2) = false := beq_eq_false_iff_ne.mpr c16
                have c16b1 : (a1 != 2) = true := bne_iff_ne.mpr c16
                obtain rfl := Option.some.inj H
                go_wp2
                go_ret
                exact ⟨by first | rfl | (simp; done) | (simp [*]; done), by repeat (first | exact Drawn0.refl _ | apply Drawn0.step)⟩

end Go.Proofs.Ytlmabdiodopidaa.P
end
section
set_option linter.unusedVariables false
set_option linter.unusedSimpArgs false
namespace Go.Proofs.Ytlmabdiodopidaa.P
open Go.Proofs.Ytlmabdiodopidaa.G
attribute [local go_sem high] un_not64 un_noti run_add64
open Go.RowKit Go.Proofs.YtlmabdiodopidaaW.PrintWords Go.Proofs.YtlmabdiodopidaaW.PrintLast Go.Proofs.YtlmabdiodopidaaW.PrintMore
attribute [local go_sem] max2_int min2_int max_two min_two max_three min_three max_four min_four   -- for this text's walks alone
set_option linter.unusedVariables false
set_option linter.unusedSimpArgs false

/-! ### corebankref04_Civil: function 82 -/
mutual
def corebankref04_Civil.l0 : Nat → Int → Int → Int → Option (Int × Int × Int)
  | 0, _, _, _ => none
  | k + 1, x0, x5, x6 => (corebankref04_yearLength.f x5).bind fun t123 => (if x0 ≥ t123 then ((corebankref04_yearLength.f x5).bind fun t124 => (corebankref04_Civil.l0 k (wrap64 (x0 - t124)) (wrap64 (x5 + 1)) x6)) else (corebankref04_Civil.l1 k x0 x5 x6))
def corebankref04_Civil.l1 : Nat → Int → Int → Int → Option (Int × Int × Int)
  | 0, _, _, _ => none
  | k + 1, x0, x5, x6 => (corebankref04_Length.f k x5 x6).bind fun t125 => (if x0 ≥ t125 then ((corebankref04_Length.f k x5 x6).bind fun t126 => (corebankref04_Civil.l1 k (wrap64 (x0 - t126)) x5 (wrap64 (x6 + 1)))) else (some (x5, x6, wrap64 (x0 + 1))))
end
def corebankref04_Civil.f (k : Nat) (a0 : Int) : Option (Int × Int × Int) := (corebankref04_Valid.f a0).bind fun t122 => (if t122 = true then (corebankref04_Civil.l0 k a0 2000 1) else (some (0, 0, 0)))
theorem corebankref04_Civil.mono_l : ∀ k, (∀ y0 y1 y2, LeO (corebankref04_Civil.l0 k y0 y1 y2) (corebankref04_Civil.l0 (k + 1) y0 y1 y2)) ∧ (∀ y0 y1 y2, LeO (corebankref04_Civil.l1 k y0 y1 y2) (corebankref04_Civil.l1 (k + 1) y0 y1 y2))
  | 0 => ⟨fun _ _ _ r h => by simp [corebankref04_Civil.l0] at h, fun _ _ _ r h => by simp [corebankref04_Civil.l1] at h⟩
  | k + 1 => by
    obtain ⟨ih0, ih1⟩ := corebankref04_Civil.mono_l k
    refine ⟨?_, ?_⟩
    · intro y0 y1 y2
      unfold corebankref04_Civil.l0
      repeat' first
      | (with_reducible exact ih0 _ _ _)
      | (with_reducible exact ih1 _ _ _)
      | (with_reducible exact corebankref04_Length.mono _ _ _)
      | (with_reducible exact LeO.refl _)
      | (with_reducible exact LeO.none _)
      | (with_reducible refine LeO.ite ?_ ?_)
      | (with_reducible refine LeO.bind ?_ (fun _ => ?_))
      | exact ih0 _ _ _
      | exact ih1 _ _ _
      | exact corebankref04_Length.mono _ _ _
      | exact LeO.none _
      | refine LeO.ite ?_ ?_
      | refine LeO.bind ?_ (fun _ => ?_)
    · intro y0 y1 y2
      unfold corebankref04_Civil.l1
      repeat' first
      | (with_reducible exact ih0 _ _ _)
      | (with_reducible exact ih1 _ _ _)
      | (with_reducible exact corebankref04_Length.mono _ _ _)
      | (with_reducible exact LeO.refl _)
      | (with_reducible exact LeO.none _)
      | (with_reducible refine LeO.ite ?_ ?_)
      | (with_reducible refine LeO.bind ?_ (fun _ => ?_))
      | exact ih0 _ _ _
      | exact ih1 _ _ _
      | exact corebankref04_Length.mono _ _ _
      | exact LeO.none _
      | refine LeO.ite ?_ ?_
      | refine LeO.bind ?_ (fun _ => ?_)
theorem corebankref04_Civil.mono : ∀ a0 k, LeO (corebankref04_Civil.f k a0) (corebankref04_Civil.f (k + 1) a0) := by
  intro a0 k
  obtain ⟨ih0, ih1⟩ := corebankref04_Civil.mono_l k
  unfold corebankref04_Civil.f
  repeat' first
      | (with_reducible exact ih0 _ _ _)
      | (with_reducible exact ih1 _ _ _)
      | (with_reducible exact corebankref04_Length.mono _ _ _)
      | (with_reducible exact LeO.refl _)
      | (with_reducible exact LeO.none _)
      | (with_reducible refine LeO.ite ?_ ?_)
      | (with_reducible refine LeO.bind ?_ (fun _ => ?_))
      | exact ih0 _ _ _
      | exact ih1 _ _ _
      | exact corebankref04_Length.mono _ _ _
      | exact LeO.none _
      | refine LeO.ite ?_ ?_
      | refine LeO.bind ?_ (fun _ => ?_)
set_option maxHeartbeats 8000000 in
set_option maxRecDepth 100000 in
theorem corebankref04_Civil.calls (k : Nat) (a0 : Int) (r1 : Int) (r2 : Int) (r3 : Int) (w : World) (h : corebankref04_Civil.f k a0 = some (r1, r2, r3)) :
    Calls Try.prog 82 #[.int .i64 a0] w fun e w' => e = .returned (.tuple #[.int .i64 r1, .int .i64 r2, .int .i64 r3]) ∧ Drawn0 w w' := by
  have H : ((corebankref04_Valid.f a0).bind fun t122 => (if t122 = true then (corebankref04_Civil.l0 k a0 2000 1) else (some (0, 0, 0)))) = some (r1, r2, r3) := h
  clear h
  replace H := Option.bind_eq_some_iff.mp H
  obtain ⟨t122, A20, H⟩ := H
  replace H : (if t122 = true then (corebankref04_Civil.l0 k a0 2000 1) else (some (0, 0, 0))) = some (r1, r2, r3) := H
  have A2 := Aside0.mk A20
  clear A20
  by_cases c3 : t122 = true
  · subst c3
    have H1 : (corebankref04_Civil.l0 k a0 2000 1) = some (r1, r2, r3) := by rw [if_pos rfl] at H; exact H
    clear H
    have H := H1
    clear H1
    have H' := Aside0.mk H
    clear H
    go_enter Try.func82, Try.ntmps82
    go_wp2_with (first | ((with_reducible refine gate_callee (f := 55) rfl ?_); refine goesL_ (some 8) rfl rfl Try.func55 (by kernel_rfl) rfl #[.int .i64 a0] rfl zm ?_; (with_reducible refine (corebankref04_Valid.calls a0 true _ A2.out).mono ?_); rintro e w' ⟨rfl, ⟨nd, rfl⟩⟩; refine ⟨_, rfl, ?_⟩))
    go_loopg [0, 5] k (fun kq v0 v5 w' => ∃ (x0_1 : Int) (x5_1 : Int), v0 = .int .i64 x0_1 ∧ v5 = .int .i64 x5_1 ∧ Aside0 (corebankref04_Civil.l0 kq x0_1 x5_1 1 = some (r1, r2, r3)) ∧ Aside0 (kq ≤ k) ∧ Drawn0 w w')
    case atStart => exact ⟨(a0), (2000), (by first | rfl | (simp; done) | (simp [*]; done)), (by first | rfl | (simp; done) | (simp [*]; done)), H', ⟨Nat.le_refl _⟩, by repeat (first | exact Drawn0.refl _ | apply Drawn0.step)⟩
    case round =>
      clear H'
      try clear p2
      try clear c3
      obtain ⟨x0_1, x5_1, rfl, rfl, HA, HK1, ⟨m1, rfl⟩⟩ := hrel
      cases gk with
      | zero => exact absurd HA.out (by simp [corebankref04_Civil.l0])
      | succ k1 =>
        have H := HA.out
        clear HA
        simp only [corebankref04_Civil.l0] at H
        replace H := Option.bind_eq_some_iff.mp H
        obtain ⟨t123, A40, H⟩ := H
        replace H : (if x0_1 ≥ t123 then ((corebankref04_yearLength.f x5_1).bind fun t124 => (corebankref04_Civil.l0 k1 (wrap64 (x0_1 - t124)) (wrap64 (x5_1 + 1)) 1)) else (corebankref04_Civil.l1 k1 x0_1 x5_1 1)) = some (r1, r2, r3) := H
        have A4 := Aside0.mk A40
        clear A40
        by_cases c5 : x0_1 ≥ t123
        · rw [if_pos c5] at H
          have c5b0 : decide (t123 ≤ x0_1) = true := decide_eq_true c5
          clear c5
          replace H := Option.bind_eq_some_iff.mp H
          obtain ⟨t124, A60, H⟩ := H
          replace H : (corebankref04_Civil.l0 k1 (wrap64 (x0_1 - t124)) (wrap64 (x5_1 + 1)) 1) = some (r1, r2, r3) := H
          have A6 := Aside0.mk A60
          clear A60
          have H' := Aside0.mk H
          clear H
          go_wp2_with (first | ((with_reducible refine gate_callee (f := 92) rfl ?_); refine goesL_ (some 12) rfl rfl Try.func92 (by kernel_rfl) rfl #[.int .i64 x5_1] rfl zm ?_; (with_reducible refine (corebankref04_yearLength.calls x5_1 t123 _ A4.out).mono ?_); rintro e w' ⟨rfl, ⟨nd, rfl⟩⟩; refine ⟨_, rfl, ?_⟩) | ((with_reducible refine gate_callee (f := 92) rfl ?_); refine goesL_ (some 16) rfl rfl Try.func92 (by kernel_rfl) rfl #[.int .i64 x5_1] rfl zm ?_; (with_reducible refine (corebankref04_yearLength.calls x5_1 t124 _ A6.out).mono ?_); rintro e w' ⟨rfl, ⟨nd, rfl⟩⟩; refine ⟨_, rfl, ?_⟩))
          go_roundg k1
          case measure => have := HK1.out; omega
          case rel => exact ⟨(wrap64 (x0_1 - t124)), (wrap64 (x5_1 + 1)), (by first | rfl | (simp; done) | (simp [*]; done)), (by first | rfl | (simp; done) | (simp [*]; done)), H', ⟨by have := HK1.out; omega⟩, by repeat (first | exact Drawn0.refl _ | apply Drawn0.step)⟩
        · rw [if_neg c5] at H
          have c5b0 : decide (t123 ≤ x0_1) = false := decide_eq_false c5
          clear c5
          have H' := Aside0.mk H
          clear H
          go_wp2_with (first | ((with_reducible refine gate_callee (f := 92) rfl ?_); refine goesL_ (some 12) rfl rfl Try.func92 (by kernel_rfl) rfl #[.int .i64 x5_1] rfl zm ?_; (with_reducible refine (corebankref04_yearLength.calls x5_1 t123 _ A4.out).mono ?_); rintro e w' ⟨rfl, ⟨nd, rfl⟩⟩; refine ⟨_, rfl, ?_⟩))
          go_loopg [0, 6] k1 (fun kq v0 v6 w' => ∃ (x0_2 : Int) (x6_2 : Int), v0 = .int .i64 x0_2 ∧ v6 = .int .i64 x6_2 ∧ Aside0 (corebankref04_Civil.l1 kq x0_2 x5_1 x6_2 = some (r1, r2, r3)) ∧ Aside0 (kq ≤ k1) ∧ Drawn0 w w')
          case atStart => exact ⟨(x0_1), (1), (by first | rfl | (simp; done) | (simp [*]; done)), (by first | rfl | (simp; done) | (simp [*]; done)), H', ⟨Nat.le_refl _⟩, by repeat (first | exact Drawn0.refl _ | apply Drawn0.step)⟩
          case round =>
            clear H'
            try clear p2
            try clear c3
            try clear c5
            try clear c5b0
            try clear p6
            try clear p2
            obtain ⟨x0_2, x6_2, rfl, rfl, HA, HK2, ⟨m2, rfl⟩⟩ := hrel
            cases gk with
            | zero => exact absurd HA.out (by simp [corebankref04_Civil.l1])
            | succ k2 =>
              have H := HA.out
              clear HA
              simp only [corebankref04_Civil.l1] at H
              replace H := Option.bind_eq_some_iff.mp H
              obtain ⟨t125, A70, H⟩ := H
              replace H : (if x0_2 ≥ t125 then ((corebankref04_Length.f k2 x5_1 x6_2).bind fun t126 => (corebankref04_Civil.l1 k2 (wrap64 (x0_2 - t126)) x5_1 (wrap64 (x6_2 + 1)))) else (some (x5_1, x6_2, wrap64 (x0_2 + 1)))) = some (r1, r2, r3) := H
              have A7 := Aside0.mk A70
              clear A70
              by_cases c8 : x0_2 ≥ t125
              · rw [if_pos c8] at H
                have c8b0 : decide (t125 ≤ x0_2) = true := decide_eq_true c8
                clear c8
                replace H := Option.bind_eq_some_iff.mp H
                obtain ⟨t126, A90, H⟩ := H
                replace H : (corebankref04_Civil.l1 k2 (wrap64 (x0_2 - t126)) x5_1 (wrap64 (x6_2 + 1))) = some (r1, r2, r3) := H
                have A9 := Aside0.mk A90
                clear A90
                have H' := Aside0.mk H
                clear H
                go_wp2_with (first | ((with_reducible refine gate_callee (f := 93) rfl ?_); refine goesL_ (some 23) rfl rfl Try.func93 (by kernel_rfl) rfl #[.int .i64 x5_1, .int .i64 x6_2] rfl zm ?_; (with_reducible refine (corebankref04_Length.calls k2 x5_1 x6_2 t125 _ A7.out).mono ?_); rintro e w' ⟨rfl, ⟨nd, rfl⟩⟩; refine ⟨_, rfl, ?_⟩) | ((with_reducible refine gate_callee (f := 93) rfl ?_); refine goesL_ (some 28) rfl rfl Try.func93 (by kernel_rfl) rfl #[.int .i64 x5_1, .int .i64 x6_2] rfl zm ?_; (with_reducible refine (corebankref04_Length.calls k2 x5_1 x6_2 t126 _ A9.out).mono ?_); rintro e w' ⟨rfl, ⟨nd, rfl⟩⟩; refine ⟨_, rfl, ?_⟩))
                go_roundg k2
                case measure => have := HK1.out; have := HK2.out; omega
                case rel => exact ⟨(wrap64 (x0_2 - t126)), (wrap64 (x6_2 + 1)), (by first | rfl | (simp; done) | (simp [*]; done)), (by first | rfl | (simp; done) | (simp [*]; done)), H', ⟨by have := HK1.out; have := HK2.out; omega⟩, by repeat (first | exact Drawn0.refl _ | apply Drawn0.step)⟩
              · rw [if_neg c8] at H
                have c8b0 : decide (t125 ≤ x0_2) = false := decide_eq_false c8
                clear c8
                simp only [Option.some.injEq, Prod.mk.injEq] at H
                obtain ⟨rfl, rfl, rfl⟩ := H
                go_wp2_with (first | ((with_reducible refine gate_callee (f := 93) rfl ?_); refine goesL_ (some 23) rfl rfl Try.func93 (by kernel_rfl) rfl #[.int .i64 x5_1, .int .i64 x6_2] rfl zm ?_; (with_reducible refine (corebankref04_Length.calls k2 x5_1 x6_2 t125 _ A7.out).mono ?_); rintro e w' ⟨rfl, ⟨nd, rfl⟩⟩; refine ⟨_, rfl, ?_⟩))
                go_ret3
                exact ⟨by first | rfl | (simp; done) | (simp [*]; done), by repeat (first | exact Drawn0.refl _ | apply Drawn0.step)⟩
  · replace c3 := Bool.eq_false_iff.mpr c3
    subst c3
    have H1 : (some (0, 0, 0)) = some (r1, r2, r3) := by rw [if_neg (show ¬ (false = true) by decide)] at H; exact H
    clear H
    have H := H1
    clear H1
    simp only [Option.some.injEq, Prod.mk.injEq] at H
    obtain ⟨rfl, rfl, rfl⟩ := H
    go_enter Try.func82, Try.ntmps82
    go_wp2_with (first | ((with_reducible refine gate_callee (f := 55) rfl ?_); refine goesL_ (some 8) rfl rfl Try.func55 (by kernel_rfl) rfl #[.int .i64 a0] rfl zm ?_; (with_reducible refine (corebankref04_Valid.calls a0 false _ A2.out).mono ?_); rintro e w' ⟨rfl, ⟨nd, rfl⟩⟩; refine ⟨_, rfl, ?_⟩))
    go_ret3
    exact ⟨by first | rfl | (simp; done) | (simp [*]; done), by repeat (first | exact Drawn0.refl _ | apply Drawn0.step)⟩

/-! ### corebankref06_Thirty: function 84 -/
def corebankref06_Thirty.j0 : Nat → Int → Int → Bool → Option (Int)
  | 0, _, _, _ => none
  | k + 1, x0, x1, x18 => if x18 = true then (some 0) else ((corebankref04_Civil.f k x0).bind fun bt129 => ((corebankref04_Civil.f k x1).bind fun bt132 => (some (wrap64 ((wrap64 ((wrap64 ((wrap64 (360 * (wrap64 (bt132.1 - bt129.1)))) + (wrap64 (30 * (wrap64 (bt132.2.1 - bt129.2.1)))))) + (mn bt132.2.2 30))) - (mn bt129.2.2 30))))))
def corebankref06_Thirty.f (k : Nat) (a0 : Int) (a1 : Int) : Option (Int) := (corebankref04_Valid.f a0).bind fun t127 => (if t127 = true then ((corebankref04_Valid.f a1).bind fun t128 => (corebankref06_Thirty.j0 k a0 a1 (!t128))) else (corebankref06_Thirty.j0 k a0 a1 true))
theorem corebankref06_Thirty.mono_l : ∀ k, (∀ y0 y1 y2, LeO (corebankref06_Thirty.j0 k y0 y1 y2) (corebankref06_Thirty.j0 (k + 1) y0 y1 y2))
  | 0 => fun _ _ _ r h => by simp [corebankref06_Thirty.j0] at h
  | k + 1 => by
    have ih0 := corebankref06_Thirty.mono_l k
    · intro y0 y1 y2
      unfold corebankref06_Thirty.j0
      repeat' first
      | (with_reducible exact ih0 _ _ _)
      | (with_reducible exact corebankref04_Civil.mono _ _)
      | (with_reducible exact LeO.refl _)
      | (with_reducible exact LeO.none _)
      | (with_reducible refine LeO.ite ?_ ?_)
      | (with_reducible refine LeO.bind ?_ (fun _ => ?_))
      | exact ih0 _ _ _
      | exact corebankref04_Civil.mono _ _
      | exact LeO.none _
      | refine LeO.ite ?_ ?_
      | refine LeO.bind ?_ (fun _ => ?_)
theorem corebankref06_Thirty.mono : ∀ a0 a1 k, LeO (corebankref06_Thirty.f k a0 a1) (corebankref06_Thirty.f (k + 1) a0 a1) := by
  intro a0 a1 k
  have ih0 := corebankref06_Thirty.mono_l k
  unfold corebankref06_Thirty.f
  repeat' first
      | (with_reducible exact ih0 _ _ _)
      | (with_reducible exact corebankref04_Civil.mono _ _)
      | (with_reducible exact LeO.refl _)
      | (with_reducible exact LeO.none _)
      | (with_reducible refine LeO.ite ?_ ?_)
      | (with_reducible refine LeO.bind ?_ (fun _ => ?_))
      | exact ih0 _ _ _
      | exact corebankref04_Civil.mono _ _
      | exact LeO.none _
      | refine LeO.ite ?_ ?_
      | refine LeO.bind ?_ (fun _ => ?_)
set_option maxHeartbeats 8000000 in
set_option maxRecDepth 100000 in
theorem corebankref06_Thirty.calls (k : Nat) (a0 : Int) (a1 : Int) (r : Int) (w : World) (h : corebankref06_Thirty.f k a0 a1 = some r) :
    Calls Try.prog 84 #[.int .i64 a0, .int .i64 a1] w fun e w' => e = .returned (.int .i64 r) ∧ Below w.heap.size w w' := by
  have HB := Aside0.mk (Below.refl w.heap.size w)
  have H : ((corebankref04_Valid.f a0).bind fun t127 => (if t127 = true then ((corebankref04_Valid.f a1).bind fun t128 => (corebankref06_Thirty.j0 k a0 a1 (!t128))) else (corebankref06_Thirty.j0 k a0 a1 true))) = some r := h
  clear h
  have HC3 := Aside0.mk H
  clear H
  go_enter Try.func84, Try.ntmps84
  go_upto_region 1 with (fail)
  go_cut [18] (fun v18 wc => ∃ (kq : Nat) (x18_2 : Bool), v18 = .bool x18_2 ∧ Aside0 (corebankref06_Thirty.j0 kq a0 a1 x18_2 = some r) ∧ Aside0 (kq ≤ k) ∧ Aside0 (Below w.heap.size w wc))
  case first =>
    have H := HC3.out
    clear HC3
    replace H := Option.bind_eq_some_iff.mp H
    obtain ⟨t127, A40, H⟩ := H
    replace H : (if t127 = true then ((corebankref04_Valid.f a1).bind fun t128 => (corebankref06_Thirty.j0 k a0 a1 (!t128))) else (corebankref06_Thirty.j0 k a0 a1 true)) = some r := H
    have A4 := Aside0.mk A40
    clear A40
    by_cases c5 : t127 = true
    · subst c5
      have H1 : ((corebankref04_Valid.f a1).bind fun t128 => (corebankref06_Thirty.j0 k a0 a1 (!t128))) = some r := by rw [if_pos rfl] at H; exact H
      clear H
      have H := H1
      clear H1
      replace H := Option.bind_eq_some_iff.mp H
      obtain ⟨t128, A60, H⟩ := H
      replace H : (corebankref06_Thirty.j0 k a0 a1 (!t128)) = some r := H
      have A6 := Aside0.mk A60
      clear A60
      have H' := Aside0.mk H
      clear H
      go_wp2_with (first | ((with_reducible refine gate_callee (f := 55) rfl ?_); refine goesL_ (some 12) rfl rfl Try.func55 (by kernel_rfl) rfl #[.int .i64 a0] rfl zm ?_; (with_reducible refine (corebankref04_Valid.calls a0 true _ A4.out).mono ?_); rintro e w' ⟨rfl, ⟨nd, rfl⟩⟩; refine ⟨_, rfl, ?_⟩) | (go_at_call 55; (with_reducible refine (corebankref04_Valid.calls a1 t128 _ A6.out).mono ?_); rintro e w' ⟨rfl, ⟨nd, rfl⟩⟩))
      go_meet
      case rel => exact ⟨_, (!t128), (by first | rfl | (simp; done) | (simp [*]; done)), H', ⟨by first | omega | exact Nat.le_refl _⟩, ⟨hq HB⟩⟩
    · replace c5 := Bool.eq_false_iff.mpr c5
      subst c5
      have H1 : (corebankref06_Thirty.j0 k a0 a1 true) = some r := by rw [if_neg (show ¬ (false = true) by decide)] at H; exact H
      clear H
      have H := H1
      clear H1
      have H' := Aside0.mk H
      clear H
      go_wp2_with (first | ((with_reducible refine gate_callee (f := 55) rfl ?_); refine goesL_ (some 12) rfl rfl Try.func55 (by kernel_rfl) rfl #[.int .i64 a0] rfl zm ?_; (with_reducible refine (corebankref04_Valid.calls a0 false _ A4.out).mono ?_); rintro e w' ⟨rfl, ⟨nd, rfl⟩⟩; refine ⟨_, rfl, ?_⟩))
      go_meet
      case rel => exact ⟨_, (true), (by first | rfl | (simp; done) | (simp [*]; done)), H', ⟨by first | omega | exact Nat.le_refl _⟩, ⟨hq HB⟩⟩
  case rest =>
    clear HC3
    try clear p2
    try clear c5
    obtain ⟨kq, x18_2, rfl, HA, HJ2, HB⟩ := hcut
    cases kq with
    | zero => exact absurd HA.out (by simp [corebankref06_Thirty.j0])
    | succ kj2 =>
      have H := HA.out
      clear HA
      simp only [corebankref06_Thirty.j0] at H
      by_cases c7 : x18_2 = true
      · subst c7
        have H1 : (some 0) = some r := by rw [if_pos rfl] at H; exact H
        clear H
        have H := H1
        clear H1
        obtain rfl := Option.some.inj H
        go_wp2
        go_ret
        exact ⟨by first | rfl | (simp [errW_none, errW_some] <;> rfl) | (simp [*, errW_none, errW_some] <;> rfl), hq HB⟩
      · replace c7 := Bool.eq_false_iff.mpr c7
        subst c7
        have H1 : ((corebankref04_Civil.f kj2 a0).bind fun bt129 => ((corebankref04_Civil.f kj2 a1).bind fun bt132 => (some (wrap64 ((wrap64 ((wrap64 ((wrap64 (360 * (wrap64 (bt132.1 - bt129.1)))) + (wrap64 (30 * (wrap64 (bt132.2.1 - bt129.2.1)))))) + (mn bt132.2.2 30))) - (mn bt129.2.2 30)))))) = some r := by rw [if_neg (show ¬ (false = true) by decide)] at H; exact H
        clear H
        have H := H1
        clear H1
        replace H := Option.bind_eq_some_iff.mp H
        obtain ⟨⟨t129, t130, t131⟩, A80, H⟩ := H
        replace H : ((corebankref04_Civil.f kj2 a1).bind fun bt132 => (some (wrap64 ((wrap64 ((wrap64 ((wrap64 (360 * (wrap64 (bt132.1 - t129)))) + (wrap64 (30 * (wrap64 (bt132.2.1 - t130)))))) + (mn bt132.2.2 30))) - (mn t131 30))))) = some r := H
        have A8 := Aside0.mk A80
        clear A80
        replace H := Option.bind_eq_some_iff.mp H
        obtain ⟨⟨t132, t133, t134⟩, A90, H⟩ := H
        replace H : (some (wrap64 ((wrap64 ((wrap64 ((wrap64 (360 * (wrap64 (t132 - t129)))) + (wrap64 (30 * (wrap64 (t133 - t130)))))) + (mn t134 30))) - (mn t131 30)))) = some r := H
        have A9 := Aside0.mk A90
        clear A90
        obtain ⟨ji10, hji10⟩ : ∃ j_ : Int, (mn t134 30) = j_ := ⟨_, rfl⟩
        replace H : (some (wrap64 ((wrap64 ((wrap64 ((wrap64 (360 * (wrap64 (t132 - t129)))) + (wrap64 (30 * (wrap64 (t133 - t130)))))) + (ji10))) - (mn t131 30)))) = some r := by first | (rw [hji10] at H; exact H) | (simp only [hji10] at H ⊢; exact H)
        (try rw [hji10] at A8)
        (try rw [hji10] at A9)
        (try (have hji10h : ji10 ≤ 30 := by (rw [← hji10]; unfold mn; (repeat' split) <;> omega)))
        (try (have hji10g : ji10 ≤ 64 := by omega))
        have hji10_ : (if 30 < t134 then 30 else t134) = ji10 := hji10
        obtain ⟨ji11, hji11⟩ : ∃ j_ : Int, (mn t131 30) = j_ := ⟨_, rfl⟩
        replace H : (some (wrap64 ((wrap64 ((wrap64 ((wrap64 (360 * (wrap64 (t132 - t129)))) + (wrap64 (30 * (wrap64 (t133 - t130)))))) + (ji10))) - (ji11)))) = some r := by first | (rw [hji11] at H; exact H) | (simp only [hji11] at H ⊢; exact H)
        (try rw [hji11] at A8)
        (try rw [hji11] at A9)
        (try (have hji11h : ji11 ≤ 30 := by (rw [← hji11]; unfold mn; (repeat' split) <;> omega)))
        (try (have hji11g : ji11 ≤ 64 := by omega))
        have hji11_ : (if 30 < t131 then 30 else t131) = ji11 := hji11
        obtain rfl := Option.some.inj H
        go_wp2_with (first | ((with_reducible refine gate_callee (f := 82) rfl ?_); refine goesL_ (some 21) rfl rfl Try.func82 (by kernel_rfl) rfl #[.int .i64 a0] rfl zm ?_; (with_reducible refine (corebankref04_Civil.calls kj2 a0 t129 t130 t131 _ A8.out).mono ?_); rintro e w' ⟨rfl, ⟨nd, rfl⟩⟩; refine ⟨_, rfl, ?_⟩) | ((with_reducible refine gate_callee (f := 82) rfl ?_); refine goesL_ (some 27) rfl rfl Try.func82 (by kernel_rfl) rfl #[.int .i64 a1] rfl zm ?_; (with_reducible refine (corebankref04_Civil.calls kj2 a1 t132 t133 t134 _ A9.out).mono ?_); rintro e w' ⟨rfl, ⟨nd, rfl⟩⟩; refine ⟨_, rfl, ?_⟩))
        go_ret
        exact ⟨by first | rfl | (simp [errW_none, errW_some] <;> rfl) | (simp only [← hji10, ← hji11]; first | rfl | (simp [errW_none, errW_some] <;> rfl)) | (simp [*, errW_none, errW_some] <;> rfl), hq HB⟩

end Go.Proofs.Ytlmabdiodopidaa.P
end
section
set_option linter.unusedVariables false
set_option linter.unusedSimpArgs false
namespace Go.Proofs.Ytlmabdiodopidaa.P
open Go.Proofs.Ytlmabdiodopidaa.G
attribute [local go_sem high] un_not64 un_noti run_add64
open Go.RowKit Go.Proofs.YtlmabdiodopidaaW.PrintWords Go.Proofs.YtlmabdiodopidaaW.PrintLast Go.Proofs.YtlmabdiodopidaaW.PrintMore
attribute [local go_sem] max2_int min2_int max_two min_two max_three min_three max_four min_four   -- for this text's walks alone
set_option linter.unusedVariables false
set_option linter.unusedSimpArgs false

attribute [local go_sem high] eqA66
/-! ### corebankref06_Weight: function 59 -/
def corebankref06_Weight.f (k : Nat) (a0 : Int) (a1 : Int) : Option (Int) := (corebankref04_Valid.f a1).bind fun t135 => (if t135 = true then (if a0 = 1 then (some 4453) else (if a0 = 2 then (some 4392) else (if a0 = 3 then ((corebankref04_Civil.f k a1).bind fun bt136 => ((corebankref04_Leap.f bt136.1).bind fun t139 => (if t139 = true then (some 4380) else (some 4392)))) else (if a0 = 4 then ((corebankref06_Thirty.f k a1 (wrap64 (a1 + 1))).bind fun t140 => (some (wrap64 (4453 * t140)))) else (some 0))))) else (some 0))
theorem corebankref06_Weight.mono : ∀ a0 a1 k, LeO (corebankref06_Weight.f k a0 a1) (corebankref06_Weight.f (k + 1) a0 a1) := by
  intro a0 a1 k
  unfold corebankref06_Weight.f
  repeat' first
      | (with_reducible exact corebankref04_Civil.mono _ _)
      | (with_reducible exact corebankref06_Thirty.mono _ _ _)
      | (with_reducible exact LeO.refl _)
      | (with_reducible exact LeO.none _)
      | (with_reducible refine LeO.ite ?_ ?_)
      | (with_reducible refine LeO.bind ?_ (fun _ => ?_))
      | exact corebankref04_Civil.mono _ _
      | exact corebankref06_Thirty.mono _ _ _
      | exact LeO.none _
      | refine LeO.ite ?_ ?_
      | refine LeO.bind ?_ (fun _ => ?_)
set_option maxHeartbeats 8000000 in
set_option maxRecDepth 100000 in
theorem corebankref06_Weight.calls (k : Nat) (a0 : Int) (a1 : Int) (r : Int) (w : World) (h : corebankref06_Weight.f k a0 a1 = some r) :
    Calls Try.prog 59 #[.int .i64 a0, .int .i64 a1] w fun e w' => e = .returned (.int .i64 r) ∧ Below w.heap.size w w' := by
  have HB := Aside0.mk (Below.refl w.heap.size w)
  have H : ((corebankref04_Valid.f a1).bind fun t135 => (if t135 = true then (if a0 = 1 then (some 4453) else (if a0 = 2 then (some 4392) else (if a0 = 3 then ((corebankref04_Civil.f k a1).bind fun bt136 => ((corebankref04_Leap.f bt136.1).bind fun t139 => (if t139 = true then (some 4380) else (some 4392)))) else (if a0 = 4 then ((corebankref06_Thirty.f k a1 (wrap64 (a1 + 1))).bind fun t140 => (some (wrap64 (4453 * t140)))) else (some 0))))) else (some 0))) = some r := h
  clear h
  replace H := Option.bind_eq_some_iff.mp H
  obtain ⟨t135, A30, H⟩ := H
  replace H : (if t135 = true then (if a0 = 1 then (some 4453) else (if a0 = 2 then (some 4392) else (if a0 = 3 then ((corebankref04_Civil.f k a1).bind fun bt136 => ((corebankref04_Leap.f bt136.1).bind fun t139 => (if t139 = true then (some 4380) else (some 4392)))) else (if a0 = 4 then ((corebankref06_Thirty.f k a1 (wrap64 (a1 + 1))).bind fun t140 => (some (wrap64 (4453 * t140)))) else (some 0))))) else (some 0)) = some r := H
  have A3 := Aside0.mk A30
  clear A30
  by_cases c4 : t135 = true
  · subst c4
    have H1 : (if a0 = 1 then (some 4453) else (if a0 = 2 then (some 4392) else (if a0 = 3 then ((corebankref04_Civil.f k a1).bind fun bt136 => ((corebankref04_Leap.f bt136.1).bind fun t139 => (if t139 = true then (some 4380) else (some 4392)))) else (if a0 = 4 then ((corebankref06_Thirty.f k a1 (wrap64 (a1 + 1))).bind fun t140 => (some (wrap64 (4453 * t140)))) else (some 0))))) = some r := by rw [if_pos rfl] at H; exact H
    clear H
    have H := H1
    clear H1
    by_cases c5 : a0 = 1
    · rw [if_pos c5] at H
      have c5b0 : (a0 == 1) = true := beq_iff_eq.mpr c5
      have c5b1 : (a0 != 1) = false := bne_eq_false_iff_eq.mpr c5
      clear c5
      obtain rfl := Option.some.inj H
      go_enter Try.func59, Try.ntmps59
      go_wp2_with (first | ((with_reducible refine gate_callee (f := 55) rfl ?_); refine goesL_ (some 9) rfl rfl Try.func55 (by kernel_rfl) rfl #[.int .i64 a1] rfl zm ?_; (with_reducible refine (corebankref04_Valid.calls a1 true _ A3.out).mono ?_); rintro e w' ⟨rfl, ⟨nd, rfl⟩⟩; refine ⟨_, rfl, ?_⟩))
      go_ret
      exact ⟨by first | rfl | (simp [errW_none, errW_some] <;> rfl) | (simp [*, errW_none, errW_some] <;> rfl), hq HB⟩
    · rw [if_neg c5] at H
      have c5b0 : (a0 == 1) = false := beq_eq_false_iff_ne.mpr c5
      have c5b1 : (a0 != 1) = true := bne_iff_ne.mpr c5
      by_cases c6 : a0 = 2
      · rw [if_pos c6] at H
        have c6b0 : (a0 == 2) = true := beq_iff_eq.mpr c6
        have c6b1 : (a0 != 2) = false := bne_eq_false_iff_eq.mpr c6
        clear c6
        obtain rfl := Option.some.inj H
        go_enter Try.func59, Try.ntmps59
        go_wp2_with (first | ((with_reducible refine gate_callee (f := 55) rfl ?_); refine goesL_ (some 9) rfl rfl Try.func55 (by kernel_rfl) rfl #[.int .i64 a1] rfl zm ?_; (with_reducible refine (corebankref04_Valid.calls a1 true _ A3.out).mono ?_); rintro e w' ⟨rfl, ⟨nd, rfl⟩⟩; refine ⟨_, rfl, ?_⟩))
        go_ret
        exact ⟨by first | rfl | (simp [errW_none, errW_some] <;> rfl) | (simp [*, errW_none, errW_some] <;> rfl), hq HB⟩
      · rw [if_neg c6] at H
        have c6b0 : (a0 == 2) = false := beq_eq_false_iff_ne.mpr c6
        have c6b1 : (a0 != 2) = true := bne_iff_ne.mpr c6
        by_cases c7 : a0 = 3
        · rw [if_pos c7] at H
          have c7b0 : (a0 == 3) = true := beq_iff_eq.mpr c7
          have c7b1 : (a0 != 3) = false := bne_eq_false_iff_eq.mpr c7
          clear c7
          replace H := Option.bind_eq_some_iff.mp H
          obtain ⟨⟨t136, t137, t138⟩, A80, H⟩ := H
          replace H : ((corebankref04_Leap.f t136).bind fun t139 => (if t139 = true then (some 4380) else (some 4392))) = some r := H
          have A8 := Aside0.mk A80
          clear A80
          replace H := Option.bind_eq_some_iff.mp H
          obtain ⟨t139, A90, H⟩ := H
          replace H : (if t139 = true then (some 4380) else (some 4392)) = some r := H
          have A9 := Aside0.mk A90
          clear A90
          by_cases c10 : t139 = true
          · subst c10
            have H1 : (some 4380) = some r := by rw [if_pos rfl] at H; exact H
            clear H
            have H := H1
            clear H1
            obtain rfl := Option.some.inj H
            go_enter Try.func59, Try.ntmps59
            go_wp2_with (first | ((with_reducible refine gate_callee (f := 55) rfl ?_); refine goesL_ (some 9) rfl rfl Try.func55 (by kernel_rfl) rfl #[.int .i64 a1] rfl zm ?_; (with_reducible refine (corebankref04_Valid.calls a1 true _ A3.out).mono ?_); rintro e w' ⟨rfl, ⟨nd, rfl⟩⟩; refine ⟨_, rfl, ?_⟩) | ((with_reducible refine gate_callee (f := 82) rfl ?_); refine goesL_ (some 20) rfl rfl Try.func82 (by kernel_rfl) rfl #[.int .i64 a1] rfl zm ?_; (with_reducible refine (corebankref04_Civil.calls k a1 t136 t137 t138 _ A8.out).mono ?_); rintro e w' ⟨rfl, ⟨nd, rfl⟩⟩; refine ⟨_, rfl, ?_⟩) | ((with_reducible refine gate_callee (f := 83) rfl ?_); refine goesL_ (some 25) rfl rfl Try.func83 (by kernel_rfl) rfl #[.int .i64 t136] rfl zm ?_; (with_reducible refine (corebankref04_Leap.calls t136 true _ A9.out).mono ?_); rintro e w' ⟨rfl, ⟨nd, rfl⟩⟩; refine ⟨_, rfl, ?_⟩))
            go_ret
            exact ⟨by first | rfl | (simp [errW_none, errW_some] <;> rfl) | (simp [*, errW_none, errW_some] <;> rfl), hq HB⟩
          · replace c10 := Bool.eq_false_iff.mpr c10
            subst c10
            have H1 : (some 4392) = some r := by rw [if_neg (show ¬ (false = true) by decide)] at H; exact H
            clear H
            have H := H1
            clear H1
            obtain rfl := Option.some.inj H
            go_enter Try.func59, Try.ntmps59
            go_wp2_with (first | ((with_reducible refine gate_callee (f := 55) rfl ?_); refine goesL_ (some 9) rfl rfl Try.func55 (by kernel_rfl) rfl #[.int .i64 a1] rfl zm ?_; (with_reducible refine (corebankref04_Valid.calls a1 true _ A3.out).mono ?_); rintro e w' ⟨rfl, ⟨nd, rfl⟩⟩; refine ⟨_, rfl, ?_⟩) | ((with_reducible refine gate_callee (f := 82) rfl ?_); refine goesL_ (some 20) rfl rfl Try.func82 (by kernel_rfl) rfl #[.int .i64 a1] rfl zm ?_; (with_reducible refine (corebankref04_Civil.calls k a1 t136 t137 t138 _ A8.out).mono ?_); rintro e w' ⟨rfl, ⟨nd, rfl⟩⟩; refine ⟨_, rfl, ?_⟩) | ((with_reducible refine gate_callee (f := 83) rfl ?_); refine goesL_ (some 25) rfl rfl Try.func83 (by kernel_rfl) rfl #[.int .i64 t136] rfl zm ?_; (with_reducible refine (corebankref04_Leap.calls t136 false _ A9.out).mono ?_); rintro e w' ⟨rfl, ⟨nd, rfl⟩⟩; refine ⟨_, rfl, ?_⟩))
            go_ret
            exact ⟨by first | rfl | (simp [errW_none, errW_some] <;> rfl) | (simp [*, errW_none, errW_some] <;> rfl), hq HB⟩
        · rw [if_neg c7] at H
          have c7b0 : (a0 == 3) = false := beq_eq_false_iff_ne.mpr c7
          have c7b1 : (a0 != 3) = true := bne_iff_ne.mpr c7
          by_cases c11 : a0 = 4
          · rw [if_pos c11] at H
            have c11b0 : (a0 == 4) = true := beq_iff_eq.mpr c11
            have c11b1 : (a0 != 4) = false := bne_eq_false_iff_eq.mpr c11
            clear c11
            replace H := Option.bind_eq_some_iff.mp H
            obtain ⟨t140, A120, H⟩ := H
            replace H : (some (wrap64 (4453 * t140))) = some r := H
            have A12 := Aside0.mk A120
            clear A120
            obtain rfl := Option.some.inj H
            go_enter Try.func59, Try.ntmps59
            go_wp2_with (first | ((with_reducible refine gate_callee (f := 55) rfl ?_); refine goesL_ (some 9) rfl rfl Try.func55 (by kernel_rfl) rfl #[.int .i64 a1] rfl zm ?_; (with_reducible refine (corebankref04_Valid.calls a1 true _ A3.out).mono ?_); rintro e w' ⟨rfl, ⟨nd, rfl⟩⟩; refine ⟨_, rfl, ?_⟩) | ((with_reducible refine gate_callee (f := 84) rfl ?_); refine goesL_ (some 31) rfl rfl Try.func84 (by kernel_rfl) rfl #[.int .i64 a1, .int .i64 (wrap64 (a1 + 1))] rfl zm ?_; (with_reducible refine (corebankref06_Thirty.calls k a1 (wrap64 (a1 + 1)) t140 _ A12.out).mono ?_); rintro e w13 ⟨rfl, hb⟩; refine ⟨_, rfl, ?_⟩; replace HB := bs HB hb; (try clear hb); (try clear hb2); (try clear hk); (try clear hi)))
            go_ret
            exact ⟨by first | rfl | (simp [errW_none, errW_some] <;> rfl) | (simp [*, errW_none, errW_some] <;> rfl), hq HB⟩
          · rw [if_neg c11] at H
            have c11b0 : (a0 == 4) = false := beq_eq_false_iff_ne.mpr c11
            have c11b1 : (a0 != 4) = true := bne_iff_ne.mpr c11
            obtain rfl := Option.some.inj H
            go_enter Try.func59, Try.ntmps59
            go_wp2_with (first | ((with_reducible refine gate_callee (f := 55) rfl ?_); refine goesL_ (some 9) rfl rfl Try.func55 (by kernel_rfl) rfl #[.int .i64 a1] rfl zm ?_; (with_reducible refine (corebankref04_Valid.calls a1 true _ A3.out).mono ?_); rintro e w' ⟨rfl, ⟨nd, rfl⟩⟩; refine ⟨_, rfl, ?_⟩))
            go_ret
            exact ⟨by first | rfl | (simp [errW_none, errW_some] <;> rfl) | (simp [*, errW_none, errW_some] <;> rfl), hq HB⟩
  · replace c4 := Bool.eq_false_iff.mpr c4
    subst c4
    have H1 : (some 0) = some r := by rw [if_neg (show ¬ (false = true) by decide)] at H; exact H
    clear H
    have H := H1
    clear H1
    obtain rfl := Option.some.inj H
    go_enter Try.func59, Try.ntmps59
    go_wp2_with (first | ((with_reducible refine gate_callee (f := 55) rfl ?_); refine goesL_ (some 9) rfl rfl Try.func55 (by kernel_rfl) rfl #[.int .i64 a1] rfl zm ?_; (with_reducible refine (corebankref04_Valid.calls a1 false _ A3.out).mono ?_); rintro e w' ⟨rfl, ⟨nd, rfl⟩⟩; refine ⟨_, rfl, ?_⟩))
    go_ret
    exact ⟨by first | rfl | (simp [errW_none, errW_some] <;> rfl) | (simp [*, errW_none, errW_some] <;> rfl), hq HB⟩

/-! ### corebankref27_Same: function 35 -/
def corebankref27_Same.l0 : Nat → List (S66) → List (S66) → Int → Option (Bool)
  | 0, _, _, _ => none
  | k + 1, x0, x1, x5 => if x5 < (x0.length : Int) then (if 0 ≤ x5 then (if x5 < (x1.length : Int) then (if (!(((rd_T66 x0 x5).f0) == ((rd_T66 x1 x5).f0)) || (!(((rd_T66 x0 x5).f1) == ((rd_T66 x1 x5).f1)) || (!(((rd_T66 x0 x5).f2) == ((rd_T66 x1 x5).f2)) || ((!(((rd_T66 x0 x5).f3.f0) == ((rd_T66 x1 x5).f3.f0)) || (!(((rd_T66 x0 x5).f3.f1) == ((rd_T66 x1 x5).f3.f1)))) || ((!(((rd_T66 x0 x5).f4.f0) == ((rd_T66 x1 x5).f4.f0)) || (!(((rd_T66 x0 x5).f4.f1) == ((rd_T66 x1 x5).f4.f1))))))))) = true then (some false) else (corebankref27_Same.l0 k x0 x1 (wrap64 (x5 + 1)))) else (none)) else (none)) else (some true)
def corebankref27_Same.f (k : Nat) (l0 : List (S66)) (l1 : List (S66)) : Option (Bool) := if (l0.length : Int) = (l1.length : Int) then (corebankref27_Same.l0 k l0 l1 0) else (some false)
theorem corebankref27_Same.mono_l : ∀ k, (∀ y0 y1 y2, LeO (corebankref27_Same.l0 k y0 y1 y2) (corebankref27_Same.l0 (k + 1) y0 y1 y2))
  | 0 => fun _ _ _ r h => by simp [corebankref27_Same.l0] at h
  | k + 1 => by
    have ih0 := corebankref27_Same.mono_l k
    · intro y0 y1 y2
      unfold corebankref27_Same.l0
      repeat' first
      | (with_reducible exact ih0 _ _ _)
      | (with_reducible exact LeO.refl _)
      | (with_reducible exact LeO.none _)
      | (with_reducible refine LeO.ite ?_ ?_)
      | (with_reducible refine LeO.bind ?_ (fun _ => ?_))
      | exact ih0 _ _ _
      | exact LeO.none _
      | refine LeO.ite ?_ ?_
      | refine LeO.bind ?_ (fun _ => ?_)
theorem corebankref27_Same.mono : ∀ a0 a1 k, LeO (corebankref27_Same.f k a0 a1) (corebankref27_Same.f (k + 1) a0 a1) := by
  intro a0 a1 k
  have ih0 := corebankref27_Same.mono_l k
  unfold corebankref27_Same.f
  repeat' first
      | (with_reducible exact ih0 _ _ _)
      | (with_reducible exact LeO.refl _)
      | (with_reducible exact LeO.none _)
      | (with_reducible refine LeO.ite ?_ ?_)
      | (with_reducible refine LeO.bind ?_ (fun _ => ?_))
      | exact ih0 _ _ _
      | exact LeO.none _
      | refine LeO.ite ?_ ?_
      | refine LeO.bind ?_ (fun _ => ?_)
set_option maxHeartbeats 8000000 in
set_option maxRecDepth 100000 in
theorem corebankref27_Same.calls (k : Nat) (A0 : Option Addr) (c0 : Nat) (l0 : List (S66)) (A1 : Option Addr) (c1 : Nat) (l1 : List (S66)) (r : Bool) (w : World) (hr0 : Kd.C k66 w A0 l0.length l0) (hc0 : l0.length ≤ c0) (hr1 : Kd.C k66 w A1 l1.length l1) (hc1 : l1.length ≤ c1) (h : corebankref27_Same.f k l0 l1 = some r) :
    Calls Try.prog 35 #[.slice A0 l0.length c0, .slice A1 l1.length c1] w fun e w' => e = .returned (.bool r) ∧ Drawn0 w w' := by
  have hu66 := Try.underlying66
  have HR0 := Aside0.mk hr0
  have HC0 := Aside0.mk hc0
  clear hr0 hc0
  have HR1 := Aside0.mk hr1
  have HC1 := Aside0.mk hc1
  clear hr1 hc1
  have H : (if (l0.length : Int) = (l1.length : Int) then (corebankref27_Same.l0 k l0 l1 0) else (some false)) = some r := h
  clear h
  by_cases c3 : (l0.length : Int) = (l1.length : Int)
  · rw [if_pos c3] at H
    have c3b0 : ((l0.length : Int) == (l1.length : Int)) = true := beq_iff_eq.mpr c3
    have c3b1 : ((l0.length : Int) != (l1.length : Int)) = false := bne_eq_false_iff_eq.mpr c3
    have c3b2 : (l0.length == l1.length) = true := by first | simpa using c3 | (simp at c3 ⊢; omega)
    clear c3
    have H' := Aside0.mk H
    clear H
    go_enter Try.func35, Try.ntmps35
    go_wp2
    repeat (go_quiet (fail); try go_wp2)
    go_loopg [5] k (fun kq v5 w' => ∃ (x5_1 : Int), v5 = .int .i64 x5_1 ∧ Aside0 (corebankref27_Same.l0 kq l0 l1 x5_1 = some r) ∧ Aside0 (kq ≤ k) ∧ Drawn0 w w')
    case atStart => exact ⟨(0), (by first | rfl | (simp; done) | (simp [*]; done)), H', ⟨Nat.le_refl _⟩, by repeat (first | exact Drawn0.refl _ | apply Drawn0.step)⟩
    case round =>
      clear H'
      try clear c1
      try clear p2
      try clear c3
      try clear c3b0
      try clear c3b1
      try clear c3b2
      obtain ⟨x5_1, rfl, HA, HK1, ⟨m1, rfl⟩⟩ := hrel
      cases gk with
      | zero => exact absurd HA.out (by simp [corebankref27_Same.l0])
      | succ k1 =>
        have H := HA.out
        clear HA
        simp only [corebankref27_Same.l0] at H
        by_cases c4 : x5_1 < (l0.length : Int)
        · rw [if_pos c4] at H
          have c4b0 : decide (x5_1 < (l0.length : Int)) = true := decide_eq_true c4
          clear c4
          by_cases c5 : 0 ≤ x5_1
          · rw [if_pos c5] at H
            have c5b0 : decide (0 ≤ x5_1) = true := decide_eq_true c5
            clear c5
            by_cases c6 : x5_1 < (l1.length : Int)
            · rw [if_pos c6] at H
              have c6b0 : decide (x5_1 < (l1.length : Int)) = true := decide_eq_true c6
              clear c6
              by_cases c7 : (!(((rd_T66 l0 x5_1).f0) == ((rd_T66 l1 x5_1).f0)) || (!(((rd_T66 l0 x5_1).f1) == ((rd_T66 l1 x5_1).f1)) || (!(((rd_T66 l0 x5_1).f2) == ((rd_T66 l1 x5_1).f2)) || ((!(((rd_T66 l0 x5_1).f3.f0) == ((rd_T66 l1 x5_1).f3.f0)) || (!(((rd_T66 l0 x5_1).f3.f1) == ((rd_T66 l1 x5_1).f3.f1)))) || ((!(((rd_T66 l0 x5_1).f4.f0) == ((rd_T66 l1 x5_1).f4.f0)) || (!(((rd_T66 l0 x5_1).f4.f1) == ((rd_T66 l1 x5_1).f4.f1))))))))) = true
              · rw [if_pos c7] at H
                have c7b0 : (!(((rd_T66 l0 x5_1).f0) == ((rd_T66 l1 x5_1).f0)) || (!(((rd_T66 l0 x5_1).f1) == ((rd_T66 l1 x5_1).f1)) || (!(((rd_T66 l0 x5_1).f2) == ((rd_T66 l1 x5_1).f2)) || ((!(((rd_T66 l0 x5_1).f3.f0) == ((rd_T66 l1 x5_1).f3.f0)) || (!(((rd_T66 l0 x5_1).f3.f1) == ((rd_T66 l1 x5_1).f3.f1)))) || ((!(((rd_T66 l0 x5_1).f4.f0) == ((rd_T66 l1 x5_1).f4.f0)) || (!(((rd_T66 l0 x5_1).f4.f1) == ((rd_T66 l1 x5_1).f4.f1))))))))) = true := c7
                clear c7
                obtain rfl := Option.some.inj H
                have p141 : 0 ≤ (x5_1 : Int) := of_decide_eq_true (by first | (with_reducible assumption) | assumption)
                have q141 : x5_1 < (l0.length : Int) := of_decide_eq_true (by first | (with_reducible assumption) | assumption)
                obtain ⟨ad141, e141, hx141_0, hx141_1, hx141_2, hx141_3, hx141_4, hx141_5, hx141_6⟩ := at_T66 HR0.out x5_1 p141 q141
                cases e141
                replace p141 := eq_true p141
                replace q141 := eq_true q141
                have p142 : 0 ≤ (x5_1 : Int) := of_decide_eq_true (by first | (with_reducible assumption) | assumption)
                have q142 : x5_1 < (l1.length : Int) := of_decide_eq_true (by first | (with_reducible assumption) | assumption)
                obtain ⟨ad142, e142, hx142_0, hx142_1, hx142_2, hx142_3, hx142_4, hx142_5, hx142_6⟩ := at_T66 HR1.out x5_1 p142 q142
                cases e142
                replace p142 := eq_true p142
                replace q142 := eq_true q142
                go_wp2
                repeat (go_quiet (fail); try go_wp2)
                go_ret
                exact ⟨by first | rfl | (simp; done) | (simp [*]; done), by repeat (first | exact Drawn0.refl _ | apply Drawn0.step)⟩
              · rw [if_neg c7] at H
                have c7b0 : (!(((rd_T66 l0 x5_1).f0) == ((rd_T66 l1 x5_1).f0)) || (!(((rd_T66 l0 x5_1).f1) == ((rd_T66 l1 x5_1).f1)) || (!(((rd_T66 l0 x5_1).f2) == ((rd_T66 l1 x5_1).f2)) || ((!(((rd_T66 l0 x5_1).f3.f0) == ((rd_T66 l1 x5_1).f3.f0)) || (!(((rd_T66 l0 x5_1).f3.f1) == ((rd_T66 l1 x5_1).f3.f1)))) || ((!(((rd_T66 l0 x5_1).f4.f0) == ((rd_T66 l1 x5_1).f4.f0)) || (!(((rd_T66 l0 x5_1).f4.f1) == ((rd_T66 l1 x5_1).f4.f1))))))))) = false := by simpa using c7
                clear c7
                have H' := Aside0.mk H
                clear H
                have p141 : 0 ≤ (x5_1 : Int) := of_decide_eq_true (by first | (with_reducible assumption) | assumption)
                have q141 : x5_1 < (l0.length : Int) := of_decide_eq_true (by first | (with_reducible assumption) | assumption)
                obtain ⟨ad141, e141, hx141_0, hx141_1, hx141_2, hx141_3, hx141_4, hx141_5, hx141_6⟩ := at_T66 HR0.out x5_1 p141 q141
                cases e141
                replace p141 := eq_true p141
                replace q141 := eq_true q141
                have p142 : 0 ≤ (x5_1 : Int) := of_decide_eq_true (by first | (with_reducible assumption) | assumption)
                have q142 : x5_1 < (l1.length : Int) := of_decide_eq_true (by first | (with_reducible assumption) | assumption)
                obtain ⟨ad142, e142, hx142_0, hx142_1, hx142_2, hx142_3, hx142_4, hx142_5, hx142_6⟩ := at_T66 HR1.out x5_1 p142 q142
                cases e142
                replace p142 := eq_true p142
                replace q142 := eq_true q142
                go_wp2
                repeat (go_quiet (fail); try go_wp2)
                go_roundg k1
                case measure => have := HK1.out; omega
                case rel => exact ⟨(wrap64 (x5_1 + 1)), (by first | rfl | (simp; done) | (simp [*]; done)), H', ⟨by have := HK1.out; omega⟩, by repeat (first | exact Drawn0.refl _ | apply Drawn0.step)⟩
            · rw [if_neg c6] at H
              exact absurd H (by simp)
          · rw [if_neg c5] at H
            exact absurd H (by simp)
        · rw [if_neg c4] at H
          have c4b0 : decide (x5_1 < (l0.length : Int)) = false := decide_eq_false c4
          clear c4
          obtain rfl := Option.some.inj H
          go_wp2
          repeat (go_quiet (fail); try go_wp2)
          go_ret
          exact ⟨by first | rfl | (simp; done) | (simp [*]; done), by repeat (first | exact Drawn0.refl _ | apply Drawn0.step)⟩
  · rw [if_neg c3] at H
    have c3b0 : ((l0.length : Int) == (l1.length : Int)) = false := beq_eq_false_iff_ne.mpr c3
    have c3b1 : ((l0.length : Int) != (l1.length : Int)) = true := bne_iff_ne.mpr c3
    have c3b2 : (l0.length == l1.length) = false := by first | simpa using c3 | (simp at c3 ⊢; omega)
    obtain rfl := Option.some.inj H
    go_enter Try.func35, Try.ntmps35
    go_wp2
    repeat (go_quiet (fail); try go_wp2)
    go_ret
    exact ⟨by first | rfl | (simp; done) | (simp [*]; done), by repeat (first | exact Drawn0.refl _ | apply Drawn0.step)⟩

-- NOT PRINTED: function 39 (api_Tier)

end Go.Proofs.Ytlmabdiodopidaa.P
end
section
set_option linter.unusedVariables false
set_option linter.unusedSimpArgs false
namespace Go.Proofs.Ytlmabdiodopidaa.G
set_option maxRecDepth 100000
open Go.RowKit Go.Proofs.YtlmabdiodopidaaW.PrintWords Go.Proofs.YtlmabdiodopidaaW.PrintLast Go.Proofs.YtlmabdiodopidaaW.PrintMore Go.Proofs.Ytlmabdiodopidaa.P
theorem rvd_f (day : Int) : corebankref04_Valid.f day = some (vd day) := by
  unfold corebankref04_Valid.f vd
  by_cases h : 0 ≤ day
  · rw [if_pos h]; simp [h]
  · rw [if_neg h]; simp [h]
theorem rvalid_any (day : Int) (w : World) : Calls Try.prog 55 #[.int .i64 day] w fun e w' => e = .returned (.bool (vd day)) ∧ Drawn0 w w' := corebankref04_Valid.calls day (vd day) w (rvd_f day)
/-- the reference's interest of a balance on a day -/
def RGrIs (x : Intr) (bal day g1 g2 : Int) : Prop := ∃ k sl wt e, corebankref14_Slices.f k x.tiers x.marg bal = some sl ∧ corebankref06_Weight.f k x.basis day = some wt ∧ corebankref14_Grains.f k sl wt = some (g1, g2, e)
/-- what the reference's day is -/
def RDayIs (b : Bk) (id day bal chi clo dhi dlo : Int) : Prop :=
  (activeA b.accs id day = false ∧ bal = 0 ∧ chi = 0 ∧ clo = 0 ∧ dhi = 0 ∧ dlo = 0) ∨
  (activeA b.accs id day = true ∧ bal = atR id 73048 day b.jour ∧
    (((prodA b id day).2 = false ∧ chi = 0 ∧ clo = 0 ∧ dhi = 0 ∧ dlo = 0) ∨ ((prodA b id day).2 = true ∧ ∃ g1 g2, RGrIs (sideP (prodA b id day).1 bal) bal day g1 g2 ∧
      ((0 < bal ∧ chi = g1 ∧ clo = g2 ∧ dhi = 0 ∧ dlo = 0) ∨ (bal < 0 ∧ dhi = g1 ∧ dlo = g2 ∧ chi = 0 ∧ clo = 0) ∨ (bal = 0 ∧ chi = 0 ∧ clo = 0 ∧ dhi = 0 ∧ dlo = 0)))))
def RDayAns (b : Bk) (id day a0 a1 bal chi clo dhi dlo e : Int) : Prop :=
  ((findA id b.accs).2 = false ∧ a0 = 0 ∧ a1 = 0 ∧ bal = 0 ∧ chi = 0 ∧ clo = 0 ∧ dhi = 0 ∧ dlo = 0 ∧ e = 11) ∨
  ((findA id b.accs).2 = true ∧ vd day = false ∧ a0 = 0 ∧ a1 = 0 ∧ bal = 0 ∧ chi = 0 ∧ clo = 0 ∧ dhi = 0 ∧ dlo = 0 ∧ e = 1) ∨
  ((findA id b.accs).2 = true ∧ vd day = true ∧ id = a0 ∧ day = a1 ∧ RDayIs b id day bal chi clo dhi dlo ∧ e = 0)
set_option maxHeartbeats 4000000 in
theorem rday_calls (cs : List Value) (b : Bk) (id day a0 a1 bal chi clo dhi dlo er : Int) (w0 w : World) (hb0 : Below w0.heap.size w0 w) (hk : kBk.K w0 b cs) (hd : RDayAns b id day a0 a1 bal chi clo dhi dlo er) :
    Calls Try.prog 32 #[.agg cs.toArray, .int .i64 id, .int .i64 day] w fun e w' => e = .returned (.tuple #[.agg (acL a0 a1 bal chi clo dhi dlo).toArray, .int .i64 er]) ∧ Below w.heap.size w w' := by
  obtain ⟨A1, c1, A2, c2, A3, c3, hl, -, -, g3, -, -, hJ, -, -, -⟩ := bk_get hk
  have HB0 := Aside0.mk hb0
  have HK := Aside0.mk hk
  have HL := Aside0.mk hl
  have HJ := Aside0.mk hJ
  have HD := Aside0.mk hd
  clear hb0 hk hl hd hJ
  have HW := Aside0.mk (((Below.refl w.heap.size w).alloc (Nat.le_refl _) (.cells cs.toArray 63)).alloc (by simp) (.cells zAc.toArray 66))
  have K0 := Aside0.mk ((Blk.new w cs 63).alloc (.cells zAc.toArray 66))
  have R0 := Aside0.mk (Blk.newAt (w.alloc (.cells cs.toArray 63)) (g := w.heap.size + 1) (by simp) zAc 66)
  go_enter Try.func32, Try.ntmps32
  go_upto_region 2 with (first
    | (refine ld_rng rfl 63 _ rfl (p := ⟨w.heap.size, 0, none⟩) rfl (cs := cs) K0.out.rng Try.underlying63 rfl ?_ ?_; (rw [HL.out]; kernel_rfl))
    | (go_at_call 54; refine (rfind_calls cs b id w0 _ (bstep HB0.out HW.out) HK.out).mono ?_; rintro e w1 ⟨ca, rfl, hca, hb1⟩; have CA := Aside0.mk hca; have CL := Aside0.mk (acc_get hca).1; have K1 := Aside0.mk ((K0.out.below hb1).alloc (.cells ca.toArray 101)); have R1 := Aside0.mk ((R0.out.below hb1).alloc (.cells ca.toArray 101)); have HW1 := Aside0.mk ((bstep HW.out hb1).alloc (bstep HW.out hb1).size (.cells ca.toArray 101)); clear hb1 hca)
    | (refine st_new rfl 101 _ _ rfl rfl (cs := zAccs) (vs := ca) rfl rfl CL.out ?_ (kAcc.K_one CA.out) ?_; (rw [CL.out]; kernel_rfl)))
  clear HW K0 R0
  generalize w1.alloc (.cells ca.toArray 101) = W1 at *
  generalize w1.heap.size = Ba at *
  have hd := HD.out
  unfold RDayAns at hd
  generalize (findA id b.accs).2 = is at *
  clear HD CA
  rcases hd with ⟨rfl, rfl, rfl, rfl, rfl, rfl, rfl, rfl, rfl⟩ | ⟨rfl, hv, rfl, rfl, rfl, rfl, rfl, rfl, rfl, rfl⟩ | ⟨rfl, hv, rfl, rfl, hdi, rfl⟩
  · go_wp2_with (first
      | (refine st_blk rfl 66 _ _ rfl rfl (g := w.heap.size + 1) (vs := zAc) rfl rfl R1.out rfl ?_ (by simp [Value.oneCell']) ?_; kernel_rfl; intro B3))
    exact bodyPost_ret (ret_cell_tmp Try.results32 _ _ rfl rfl B3 Try.underlying66 rfl (by kernel_rfl)) rfl ⟨rfl, Below.setCells _ (by omega) _ _ HW1.out⟩
  · go_wp2_with (first
      | (go_at_call 55; refine (rvalid_any day _).mono ?_; rintro e w2 ⟨rfl, ⟨nd, rfl⟩⟩; have R2 := Aside0.mk (R1.out.drewN (n := nd)); have HW2 := Aside0.mk (pw_below_drewN HW1.out nd))
      | (refine st_blk rfl 66 _ _ rfl rfl (g := w.heap.size + 1) (vs := zAc) rfl rfl R2.out rfl ?_ (by simp [Value.oneCell']) ?_; kernel_rfl; intro B3))
    exact bodyPost_ret (ret_cell_tmp Try.results32 _ _ rfl rfl B3 Try.underlying66 rfl (by kernel_rfl)) rfl ⟨rfl, Below.setCells _ (by omega) _ _ HW2.out⟩
  · have HDI := Aside0.mk hdi
    clear hdi
    go_upto_region 7 with (first
      | (go_at_call 55; refine (rvalid_any _ _).mono ?_; rintro e w2 ⟨rfl, ⟨nd, rfl⟩⟩; have R2 := Aside0.mk (R1.out.drewN (n := nd)); have K2 := Aside0.mk (K1.out.drewN (n := nd)); have HW2 := Aside0.mk (pw_below_drewN HW1.out nd))
      | (refine st_new rfl 66 _ _ rfl rfl (cs := acL 0 0 0 0 0 0 0) (vs := acL id day 0 0 0 0 0) rfl rfl rfl ?_ (by simp [Value.oneCell']) ?_; kernel_rfl))
    have O3 := Aside0.mk (Blk.newAt (W1.drewN nd) (g := W1.heap.size) (by simp) (acL id day 0 0 0 0 0) 66)
    have K3 := Aside0.mk (K2.out.alloc (.cells (acL id day 0 0 0 0 0).toArray 66))
    have R3 := Aside0.mk (R2.out.alloc (.cells (acL id day 0 0 0 0 0).toArray 66))
    have HW3 := Aside0.mk (HW2.out.alloc HW2.out.size (.cells (acL id day 0 0 0 0 0).toArray 66))
    have hBo : w.heap.size + 1 < W1.heap.size := R1.out.lt
    clear K2 R2 HW2 K1 R1 HW1 hv
    generalize (W1.drewN nd).alloc (.cells (acL id day 0 0 0 0 0).toArray 66) = W3 at *
    generalize W1.heap.size = Bo at *
    have hd := HDI.out
    unfold RDayIs at hd
    clear HDI
    cases hact : activeA b.accs id day
    · have e0 : bal = 0 ∧ chi = 0 ∧ clo = 0 ∧ dhi = 0 ∧ dlo = 0 := by
        rcases hd with h | h
        · exact h.2
        · rw [hact] at h
          exact absurd h.1 (by simp)
      obtain ⟨rfl, rfl, rfl, rfl, rfl⟩ := e0
      have ACT := Aside0.mk hact
      clear hact hd
      go_wp2_with (first
        | (refine ld_rng rfl 63 _ rfl (p := ⟨w.heap.size, 0, none⟩) rfl (cs := cs) K3.out.rng Try.underlying63 rfl ?_ ?_; (rw [HL.out]; kernel_rfl))
        | (go_at_call 38; refine (ractive_calls cs b id day w0 _ (bstep HB0.out HW3.out) HK.out).mono ?_; rw [ACT.out]; rintro e w4 ⟨rfl, hb4⟩; have O4 := Aside0.mk (O3.out.below hb4); have R4 := Aside0.mk (R3.out.below hb4); have HW4 := Aside0.mk (bstep HW3.out hb4); clear hb4)
        | (refine ld_rng rfl 66 _ rfl (p := ⟨Bo, 0, none⟩) rfl (cs := acL id day 0 0 0 0 0) O4.out.rng Try.underlying66 rfl ?_ ?_; kernel_rfl)
        | (refine st_blk rfl 66 _ _ rfl rfl (g := w.heap.size + 1) (vs := acL id day 0 0 0 0 0) rfl rfl R4.out rfl ?_ (by simp [Value.oneCell']) ?_; kernel_rfl; intro B3))
      exact bodyPost_ret (ret_cell_tmp Try.results32 _ _ rfl rfl B3 Try.underlying66 rfl (by kernel_rfl)) rfl ⟨rfl, Below.setCells _ (by omega) _ _ HW4.out⟩
    · have e0 := hd.resolve_left (fun h => by rw [hact] at h; exact absurd h.1 (by simp))
      have ACT := Aside0.mk hact
      have BAL := Aside0.mk e0.2.1
      have RST := Aside0.mk e0.2.2
      clear hact hd e0
      go_upto_region 10 with (first
        | (refine ld_rng rfl 63 _ rfl (p := ⟨w.heap.size, 0, none⟩) rfl (cs := cs) K3.out.rng Try.underlying63 rfl ?_ ?_; (rw [HL.out]; kernel_rfl))
        | (go_at_call 38; refine (ractive_calls cs b id day w0 _ (bstep HB0.out HW3.out) HK.out).mono ?_; rw [ACT.out]; rintro e w4 ⟨rfl, hb4⟩; have O4 := Aside0.mk (O3.out.below hb4); have R4 := Aside0.mk (R3.out.below hb4); have K4 := Aside0.mk (K3.out.below hb4); have HW4 := Aside0.mk (bstep HW3.out hb4); have c19 := (K4.out.cell 19).trans g3; clear hb4)
        | (go_at_call 56; refine (rat_calls A3 c3 b.jour id 73048 day w0 _ (bstep HB0.out HW4.out) HJ.out).mono ?_; rw [← BAL.out]; rintro e w5 ⟨rfl, hb5⟩; have O5 := Aside0.mk (O4.out.below hb5); have R5 := Aside0.mk (R4.out.below hb5); have K5 := Aside0.mk (K4.out.below hb5); have HW5 := Aside0.mk (bstep HW4.out hb5); have o2 : w5.cell? ⟨Bo, 2, none⟩ = some (.int .i64 0) := O5.out.cell 2; have fo2 := O5.out.frozen 2; clear hb5))
      have O6 := Aside0.mk (show Blk (w5.setCell ⟨Bo, 2, none⟩ (.int .i64 bal)) Bo (acL id day bal 0 0 0 0) 66 from O5.out.setc 2 _)
      have R6 := Aside0.mk (R5.out.set (p := ⟨Bo, 2, none⟩) (by simp; omega) (.int .i64 bal))
      have K6 := Aside0.mk (K5.out.set (p := ⟨Bo, 2, none⟩) (by simp; omega) (.int .i64 bal))
      have HW6 := Aside0.mk (HW5.out.setCell (p := ⟨Bo, 2, none⟩) (by simp; omega) (.int .i64 bal))
      clear o2 fo2 HW5 O5 R5 K5 c19 HW4 O4 R4 K4 HW3 O3 R3 K3 g3
      generalize w5.setCell ⟨Bo, 2, none⟩ (.int .i64 bal) = W6 at *
      go_upto_region 11 with (first
        | (refine ld_rng rfl 63 _ rfl (p := ⟨w.heap.size, 0, none⟩) rfl (cs := cs) K6.out.rng Try.underlying63 rfl ?_ ?_; (rw [HL.out]; kernel_rfl))
        | (go_at_call 57; refine (rproduct_calls cs b id day w0 _ (bstep HB0.out HW6.out) HK.out).mono ?_; rintro e w7 ⟨cp, rfl, hcp, hb7⟩; have CP := Aside0.mk hcp; have PL := Aside0.mk (prd_get hcp).1; have O7 := Aside0.mk ((O6.out.below hb7).alloc (.cells cp.toArray 98)); have R7 := Aside0.mk ((R6.out.below hb7).alloc (.cells cp.toArray 98)); have HW7 := Aside0.mk ((bstep HW6.out hb7).alloc (bstep HW6.out hb7).size (.cells cp.toArray 98)); clear hb7 hcp)
        | (refine st_new rfl 98 _ _ rfl rfl (cs := zPrds) (vs := cp) rfl rfl PL.out ?_ (kPrd.K_one CP.out) ?_; (rw [PL.out]; kernel_rfl)))
      have P7 := Aside0.mk (Blk.new w7 cp 98)
      clear O6 R6 K6 HW6
      generalize w7.alloc (.cells cp.toArray 98) = W7 at *
      generalize w7.heap.size = Bp at *
      generalize hpp : prodA b id day = pp at *
      obtain ⟨p, is⟩ := pp
      have HPP := Aside0.mk hpp
      clear hpp
      have hrst := RST.out
      clear RST
      rcases hrst with ⟨rfl, rfl, rfl, rfl, rfl⟩ | ⟨rfl, hs⟩
      · go_wp2_with (first
          | (refine ld_rng rfl 66 _ rfl (p := ⟨Bo, 0, none⟩) rfl (cs := acL id day bal 0 0 0 0) O7.out.rng Try.underlying66 rfl ?_ ?_; kernel_rfl)
          | (refine st_blk rfl 66 _ _ rfl rfl (g := w.heap.size + 1) (vs := acL id day bal 0 0 0 0) rfl rfl R7.out rfl ?_ (by simp [Value.oneCell']) ?_; kernel_rfl; intro B3))
        exact bodyPost_ret (ret_cell_tmp Try.results32 _ _ rfl rfl B3 Try.underlying66 rfl (by kernel_rfl)) rfl ⟨rfl, Below.setCells _ (by omega) _ _ HW7.out⟩
      · have HS := Aside0.mk hs
        clear hs
        have o2 : W7.cell? ⟨Bo, 2, none⟩ = some (.int .i64 bal) := O7.out.cell 2
        go_upto_region 14 with (first
          | (refine ld_rng rfl 98 _ rfl (p := ⟨Bp, 0, none⟩) rfl (cs := cp) P7.out.rng Try.underlying98 rfl ?_ ?_; (rw [PL.out]; kernel_rfl))
          | (go_at_call 58; refine (rside_calls cp p bal w0 _ (bstep HB0.out HW7.out) CP.out).mono ?_; rintro e w8 ⟨ci, rfl, hci, hb8⟩; have CI := Aside0.mk hci; have O8 := Aside0.mk ((O7.out.below hb8).alloc (.cells ci.toArray 94)); have R8 := Aside0.mk ((R7.out.below hb8).alloc (.cells ci.toArray 94)); have HW8 := Aside0.mk ((bstep HW7.out hb8).alloc (bstep HW7.out hb8).size (.cells ci.toArray 94)); obtain ⟨At, ct, cl, i0, i1, i2, hlt, hCt⟩ := intr_get hci; have CL9 := Aside0.mk cl; have CT := Aside0.mk (Kd.C_below hCt (bstep HB0.out HW8.out)); clear hci hb8 cl hCt)
          | (refine st_new rfl 94 _ _ rfl rfl (cs := zIn) (vs := ci) rfl rfl CL9.out ?_ (kIntr.K_one CI.out) ?_; (rw [CL9.out]; kernel_rfl)))
        have S8 := Aside0.mk (Blk.new w8 ci 94)
        clear O7 R7 HW7 o2
        generalize w8.alloc (.cells ci.toArray 94) = W8 at *
        generalize w8.heap.size = Bs at *
        have y0 := (S8.out.cell 0).trans i0
        have y1 := (S8.out.cell 1).trans i1
        have y2 := (S8.out.cell 2).trans i2
        have o2 : W8.cell? ⟨Bo, 2, none⟩ = some (.int .i64 bal) := O8.out.cell 2
        obtain ⟨g1, g2, ⟨k, sl, wt, eg, f1, f2, f3⟩, hcase⟩ := HS.out
        have F1 := Aside0.mk f1
        have F2 := Aside0.mk f2
        have F3 := Aside0.mk f3
        have CASE := Aside0.mk hcase
        have HBW := Aside0.mk (Below.refl W8.heap.size W8)
        clear i0 i1 i2 f1 f2 f3 hcase HS CI
        generalize hsd : sideP p bal = sd at *
        clear hsd
        go_region_held3 (fun w' => w'.cell? ⟨Bs, 0, none⟩ = some (.slice At sd.tiers.length ct) ∧ w'.cell? ⟨Bs, 1, none⟩ = some (.bool sd.marg) ∧ w'.cell? ⟨Bs, 2, none⟩ = some (.int .i64 sd.basis) ∧ w'.cell? ⟨Bo, 2, none⟩ = some (.int .i64 bal))
          (first
            | exact ⟨y0, y1, y2, o2⟩
            | go_keep
            | (go_split_ands
               refine ⟨?_, ?_, ?_, ?_⟩ <;> exact keepc hb1 (by assumption))
            | (exact ⟨keepc ((Below.refl _ wc).alloc (Nat.le_refl _) _) (keepc HC.out y0), keepc ((Below.refl _ wc).alloc (Nat.le_refl _) _) (keepc HC.out y1), keepc ((Below.refl _ wc).alloc (Nat.le_refl _) _) (keepc HC.out y2), keepc ((Below.refl _ wc).alloc (Nat.le_refl _) _) (keepc HC.out o2)⟩)
            | (exact ⟨cell2 (keepc HC.out y0) m1 m1, cell2 (keepc HC.out y1) m1 m1, cell2 (keepc HC.out y2) m1 m1, cell2 (keepc HC.out o2) m2 m2⟩)
            | fail)
          (first
            | (go_at_call 23; refine (corebankref14_Slices.calls k At ct sd.tiers sd.marg bal sl _ ?_ hlt F1.out).mono ?_; (first | exact Kd.C_drewN CT.out _ | exact Kd.C_alloc (Kd.C_drewN CT.out _) _ | fail); rintro e wa ⟨v, rfl, hv, hb1⟩; have HA : Aside0 (Below W8.heap.size W8 wa) := ⟨by first | exact bstep (pw_below_drewN (Below.refl _ W8) _) hb1 | exact bstep ((pw_below_drewN (Below.refl _ W8) _).alloc (by simp) _) hb1⟩; (try have PB : Aside0 (PBox W8.heap.size wa W8.heap.size) := ⟨⟨(Blk.new (W8.drewN 1) zWd 35).below hb1, Nat.le_refl _⟩⟩); obtain ⟨As, cS, rfl, hsl, hCs⟩ := Kd.R_reads hv; have CS := Aside0.mk hCs; clear hv hCs)
            | (go_at_call 59; refine (corebankref06_Weight.calls k _ day wt _ F2.out).mono ?_; rintro e wb ⟨rfl, hb1⟩; have HBb : Aside0 (Below W8.heap.size W8 wb) := ⟨by first | exact bstep HA.out hb1 | exact bstep (HA.out.alloc HA.out.size _) hb1⟩; have CSb : Aside0 (Kd.C k43 wb As sl.length sl) := ⟨by first | exact Kd.C_below CS.out hb1 | exact Kd.C_below (Kd.C_alloc CS.out _) hb1⟩; (first | have PB : Aside0 (PBox W8.heap.size wb W8.heap.size) := ⟨PB.out.below hb1⟩ | have PB : Aside0 (PBox W8.heap.size wb wa.heap.size) := ⟨⟨(Blk.new wa zWd 35).below hb1, HA.out.size⟩⟩ | skip))
            | (go_at_call 25; refine (corebankref14_Grains.calls k As cS sl wt g1 g2 eg _ ?_ hsl F3.out).mono ?_; (first | exact CSb.out | exact Kd.C_alloc CSb.out _ | fail); rintro e wc ⟨rfl, hb1⟩; have HC : Aside0 (Below W8.heap.size W8 wc) := ⟨by first | exact bstep HBb.out hb1 | exact bstep (HBb.out.alloc HBb.out.size _) hb1⟩; (first | have PB := Aside0.mk (PB.out.below hb1) | have PB : Aside0 (PBox W8.heap.size wc wb.heap.size) := ⟨⟨(Blk.new wb zWd 35).below hb1, HBb.out.size⟩⟩ | skip); (try have m1 := PB.out.ne S8.out.lt); (try have m2 := PB.out.ne O8.out.lt); (try have c0 := PB.out.c0); (try have c1 := PB.out.c1); (try have z0 := PB.out.z0); (try have z1 := PB.out.z1))
            | fail)
        all_goals first
          | (have G : Aside0 (Blk _ _ [.int .i64 g1, .int .u64 g2] 35) := ⟨(PB.out.blk.setc 0 (.int .i64 g1)).setc 1 (.int .u64 g2)⟩
             have HF := Aside0.mk ((HC.out.setCell (p := ⟨_, 0, none⟩) PB.out.le (.int .i64 g1)).setCell (p := ⟨_, 1, none⟩) PB.out.le (.int .u64 g2))
             clear PB c0 c1 z0 z1 m1 m2
             generalize World.setCell _ _ _ = Wf at *)
          | (have G := Aside0.mk (Blk.new wc [.int .i64 g1, .int .u64 g2] 35)
             have HF := Aside0.mk (HC.out.alloc HC.out.size (.cells [.int .i64 g1, .int .u64 g2].toArray 35))
             generalize World.alloc wc _ = Wf at *)
        all_goals
          have OF := Aside0.mk (O8.out.below HF.out)
          have RF := Aside0.mk (R8.out.below HF.out)
          have WF := Aside0.mk (bstep HW8.out HF.out)
          have p2 : Wf.cell? ⟨Bo, 2, none⟩ = some (.int .i64 bal) := OF.out.cell 2
          rcases CASE.out with ⟨hpos, rfl, rfl, rfl, rfl⟩ | ⟨hneg, rfl, rfl, rfl, rfl⟩ | ⟨rfl, rfl, rfl, rfl, rfl⟩
          · have hnn : ¬ bal < 0 := by omega
            have q3 : Wf.cell? ⟨Bo, 3, none⟩ = some (.int .i64 0) := OF.out.cell 3
            have q4 : Wf.cell? ⟨Bo, 4, none⟩ = some (.int .u64 0) := OF.out.cell 4
            have f3 := OF.out.frozen 3
            have f4 := OF.out.frozen 4
            go_wp2_with (first
              | (refine ld_rng rfl 35 _ rfl rfl (cs := [.int .i64 chi, .int .u64 clo]) G.out.rng Try.underlying35 rfl ?_ ?_; kernel_rfl)
              | (refine ld_rng rfl 66 _ rfl (p := ⟨Bo, 0, none⟩) rfl (cs := acL id day bal chi clo 0 0) ((OF.out.setc 3 _).setc 4 _).rng Try.underlying66 rfl ?_ ?_; kernel_rfl)
              | (refine st_blk rfl 66 _ _ rfl rfl (g := w.heap.size + 1) (vs := acL id day bal chi clo 0 0) rfl rfl ((RF.out.set (p := ⟨Bo, 3, none⟩) (by simp; omega) _).set (p := ⟨Bo, 4, none⟩) (by simp; omega) _) rfl ?_ (by simp [Value.oneCell']) ?_; kernel_rfl; intro B3))
            exact bodyPost_ret (ret_cell_tmp Try.results32 _ _ rfl rfl B3 Try.underlying66 rfl (by kernel_rfl)) rfl ⟨rfl, Below.setCells _ (by omega) _ _ ((WF.out.setCell (p := ⟨Bo, 3, none⟩) (by simp; omega) _).setCell (p := ⟨Bo, 4, none⟩) (by simp; omega) _)⟩
          · have hnn : ¬ 0 < bal := by omega
            have q3 : Wf.cell? ⟨Bo, 5, none⟩ = some (.int .i64 0) := OF.out.cell 5
            have q4 : Wf.cell? ⟨Bo, 6, none⟩ = some (.int .u64 0) := OF.out.cell 6
            have f3 := OF.out.frozen 5
            have f4 := OF.out.frozen 6
            go_wp2_with (first
              | (refine ld_rng rfl 35 _ rfl rfl (cs := [.int .i64 dhi, .int .u64 dlo]) G.out.rng Try.underlying35 rfl ?_ ?_; kernel_rfl)
              | (refine ld_rng rfl 66 _ rfl (p := ⟨Bo, 0, none⟩) rfl (cs := acL id day bal 0 0 dhi dlo) ((OF.out.setc 5 _).setc 6 _).rng Try.underlying66 rfl ?_ ?_; kernel_rfl)
              | (refine st_blk rfl 66 _ _ rfl rfl (g := w.heap.size + 1) (vs := acL id day bal 0 0 dhi dlo) rfl rfl ((RF.out.set (p := ⟨Bo, 5, none⟩) (by simp; omega) _).set (p := ⟨Bo, 6, none⟩) (by simp; omega) _) rfl ?_ (by simp [Value.oneCell']) ?_; kernel_rfl; intro B3))
            exact bodyPost_ret (ret_cell_tmp Try.results32 _ _ rfl rfl B3 Try.underlying66 rfl (by kernel_rfl)) rfl ⟨rfl, Below.setCells _ (by omega) _ _ ((WF.out.setCell (p := ⟨Bo, 5, none⟩) (by simp; omega) _).setCell (p := ⟨Bo, 6, none⟩) (by simp; omega) _)⟩
          · go_wp2_with (first
              | (refine ld_rng rfl 66 _ rfl (p := ⟨Bo, 0, none⟩) rfl (cs := acL id day 0 0 0 0 0) OF.out.rng Try.underlying66 rfl ?_ ?_; kernel_rfl)
              | (refine st_blk rfl 66 _ _ rfl rfl (g := w.heap.size + 1) (vs := acL id day 0 0 0 0 0) rfl rfl RF.out rfl ?_ (by simp [Value.oneCell']) ?_; kernel_rfl; intro B3))
            exact bodyPost_ret (ret_cell_tmp Try.results32 _ _ rfl rfl B3 Try.underlying66 rfl (by kernel_rfl)) rfl ⟨rfl, Below.setCells _ (by omega) _ _ WF.out⟩
end Go.Proofs.Ytlmabdiodopidaa.G
end
section
set_option linter.unusedVariables false
set_option linter.unusedSimpArgs false
namespace Go.Proofs.Ytlmabdiodopidaa.G
set_option maxRecDepth 100000
open Go.RowKit Go.Proofs.YtlmabdiodopidaaW.PrintWords Go.Proofs.YtlmabdiodopidaaW.PrintLast Go.Proofs.YtlmabdiodopidaaW.PrintMore Go.Proofs.Ytlmabdiodopidaa.P
/-- the reference's accrual of a day -/
def RIsAcc (b : Bk) (id day : Int) (x : S66) : Prop := x.f0 = id ∧ x.f1 = day ∧ RDayIs b id day x.f2 x.f3.f0 x.f3.f1 x.f4.f0 x.f4.f1
def RAccTo (b : Bk) (id f : Int) (l : List S66) : Prop := ∀ i (h : i < l.length), RIsAcc b id (f + i) l[i]
def RSerAns (b : Bk) (id f t : Int) (l : List S66) (e : Int) : Prop :=
  ((findA id b.accs).2 = false ∧ l = [] ∧ e = 11) ∨ ((findA id b.accs).2 = true ∧ serOk f t = false ∧ l = [] ∧ e = 1) ∨
  ((findA id b.accs).2 = true ∧ serOk f t = true ∧ (l.length : Int) = t - f + 1 ∧ RAccTo b id f l ∧ e = 0)
set_option maxHeartbeats 2000000 in
theorem rseries_calls (cs : List Value) (b : Bk) (id f t : Int) (l : List S66) (er : Int) (w0 w : World) (hb0 : Below w0.heap.size w0 w) (hk : kBk.K w0 b cs) (hd : RSerAns b id f t l er) :
    Calls Try.prog 34 #[.agg cs.toArray, .int .i64 id, .int .i64 f, .int .i64 t] w fun e w' => ∃ v, e = .returned (.tuple #[v, .int .i64 er]) ∧ Kd.R k66 66 w' w.heap.size (fun _ => True) v l ∧ Below w.heap.size w w' := by
  obtain ⟨A1, c1, A2, c2, A3, c3, hl, -, -, -, -, -, -, -, -, -⟩ := bk_get hk
  have HB0 := Aside0.mk hb0
  have HK := Aside0.mk hk
  have HL := Aside0.mk hl
  have HD := Aside0.mk hd
  clear hb0 hk hl hd
  have HW := Aside0.mk ((Below.refl w.heap.size w).alloc (Nat.le_refl _) (.cells cs.toArray 63))
  have K0 := Aside0.mk (Blk.new w cs 63)
  go_enter Try.func34, Try.ntmps34
  go_upto_region 2 with (first
    | (refine ld_rng rfl 63 _ rfl (p := ⟨w.heap.size, 0, none⟩) rfl (cs := cs) K0.out.rng Try.underlying63 rfl ?_ ?_; (rw [HL.out]; kernel_rfl))
    | (go_at_call 54; refine (rfind_calls cs b id w0 _ (bstep HB0.out HW.out) HK.out).mono ?_; rintro e w1 ⟨ca, rfl, hca, hb1⟩; have CA := Aside0.mk hca; have CL := Aside0.mk (acc_get hca).1; have K1 := Aside0.mk ((K0.out.below hb1).alloc (.cells ca.toArray 101)); have HW1 := Aside0.mk ((bstep HW.out hb1).alloc (bstep HW.out hb1).size (.cells ca.toArray 101)); clear hb1 hca)
    | (refine st_new rfl 101 _ _ rfl rfl (cs := zAccs) (vs := ca) rfl rfl CL.out ?_ (kAcc.K_one CA.out) ?_; (rw [CL.out]; kernel_rfl)))
  clear HW K0
  generalize w1.alloc (.cells ca.toArray 101) = W1 at *
  generalize w1.heap.size = Ba at *
  have hd := HD.out
  unfold RSerAns at hd
  clear HD CA
  have hfn : ∀ q, (findA id b.accs).2 = q → (findA id b.accs).2 = q := fun _ h => h
  generalize hgi : (findA id b.accs).2 = is at hd ⊢
  rcases hd with ⟨rfl, rfl, rfl⟩ | ⟨rfl, hv, rfl, rfl⟩ | ⟨rfl, hv, hlen, hacc, rfl⟩
  · clear hgi hfn
    go_wp2
    go_ret2
    exact ⟨_, rfl, ⟨by simp [Value.ownBlock], [], ⟨rfl, .inl ⟨rfl, rfl⟩⟩, Reps.none _ _⟩, HW1.out⟩
  · clear hgi hfn
    unfold serOk at hv
    cases c1 : vd f
    · clear hv
      go_wp2_with (first | (go_at_call 55; refine (rvalid_any _ _).mono ?_; rintro e w2 ⟨rfl, ⟨nd, rfl⟩⟩))
      go_ret2
      refine ⟨_, rfl, ⟨by simp [Value.ownBlock], [], ⟨rfl, .inl ⟨rfl, rfl⟩⟩, Reps.none _ _⟩, ?_⟩
      repeat (first | exact HW1.out | refine pw_below_drewN ?_ _)
    · cases c2 : vd t
      · clear hv
        go_wp2_with (first | (go_at_call 55; refine (rvalid_any _ _).mono ?_; rintro e w2 ⟨rfl, ⟨nd, rfl⟩⟩))
        go_ret2
        refine ⟨_, rfl, ⟨by simp [Value.ownBlock], [], ⟨rfl, .inl ⟨rfl, rfl⟩⟩, Reps.none _ _⟩, ?_⟩
        repeat (first | exact HW1.out | refine pw_below_drewN ?_ _)
      · have bf := vd_bd c1
        have bt := vd_bd c2
        by_cases q3 : f ≤ t
        · have q4 : ¬ t - f < 4000 := by
            intro q
            rw [c1, c2] at hv
            simp [q3] at hv
            omega
          clear hv
          go_wp2_with (first | (go_at_call 55; refine (rvalid_any _ _).mono ?_; rintro e w2 ⟨rfl, ⟨nd, rfl⟩⟩))
          go_ret2
          refine ⟨_, rfl, ⟨by simp [Value.ownBlock], [], ⟨rfl, .inl ⟨rfl, rfl⟩⟩, Reps.none _ _⟩, ?_⟩
          repeat (first | exact HW1.out | refine pw_below_drewN ?_ _)
        · clear hv
          go_wp2_with (first | (go_at_call 55; refine (rvalid_any _ _).mono ?_; rintro e w2 ⟨rfl, ⟨nd, rfl⟩⟩))
          go_ret2
          refine ⟨_, rfl, ⟨by simp [Value.ownBlock], [], ⟨rfl, .inl ⟨rfl, rfl⟩⟩, Reps.none _ _⟩, ?_⟩
          repeat (first | exact HW1.out | refine pw_below_drewN ?_ _)
  · obtain ⟨c1, c2, q3, q4⟩ := serOk_all hv
    have bf := vd_bd c1
    have bt := vd_bd c2
    have FND := Aside0.mk hgi
    have ACC := Aside0.mk hacc
    clear hgi hfn
    have LEN := Aside0.mk hlen
    clear hv hacc hlen
    go_upto_region 6 with (first | (go_at_call 55; refine (rvalid_any _ _).mono ?_; rintro e w2 ⟨rfl, ⟨nd, rfl⟩⟩))
    generalize (_ : Nat) + nd = m
    have K2 := Aside0.mk (K1.out.drewN (n := m))
    have HW2 := Aside0.mk (pw_below_drewN HW1.out m)
    generalize W1.drewN m = W2 at *
    clear K1 HW1
    have hlx : (l.length : Int) = t - f + 1 := LEN.out
    have hlen2 : l.length ≤ 4000 := by omega
    have L2 := Aside0.mk hlen2
    have HWS := Aside0.mk HW2.out.size
    have R4 : Kd.R k66 66 W2 W2.heap.size (fun _ => True) (.slice none 0 0) [] := ⟨fun _ _ => trivial, [], ⟨rfl, .inl ⟨rfl, rfl⟩⟩, Reps.none _ _⟩
    have R4 := Aside0.mk R4
    clear hlx
    go_wp2
    go_loopw [12, 13] (fun ov dv wr => ∃ (x : Nat), x ≤ l.length ∧ dv = .int .i64 (f + x) ∧ Aside0 (Kd.R k66 66 wr W2.heap.size (fun _ => True) ov (l.take x)) ∧ Aside0 (Below W2.heap.size W2 wr)) (fun _ dv _ => (t + 1 - intOf dv).toNat)
    case atStart => exact ⟨0, by omega, by simp, R4, ⟨Below.refl _ _⟩⟩
    case round =>
      obtain ⟨x, k1, rfl, hR, hB⟩ := hrel
      have hll : (l.length : Int) = t - f + 1 := LEN.out
      have SZ := Aside0.mk hB.out.size
      by_cases hlt : x < l.length
      · have hle : f + x ≤ t := by omega
        have h73 : f + x ≤ 73048 := by omega
        obtain ⟨a0, a1, hdi⟩ := ACC.out x hlt
        have hM : ∀ W, Kd.M k66 W W2.heap.size (fun _ => False) l[x] (acL id (f + x) l[x].f2 l[x].f3.f0 l[x].f3.f1 l[x].f4.f0 l[x].f4.f1) := fun W => by
          have := k66_mkM W W2.heap.size (fun _ => False) l[x]
          rw [a0, a1] at this
          exact this
        have HM := Aside0.mk hM
        have hvx : vd (f + x) = true := by unfold vd; simp; omega
        have hda : RDayAns b id (f + x) id (f + x) l[x].f2 l[x].f3.f0 l[x].f3.f1 l[x].f4.f0 l[x].f4.f1 0 := .inr (.inr ⟨FND.out, hvx, rfl, rfl, hdi, rfl⟩)
        have HDA := Aside0.mk hda
        have htk : l.take (x + 1) = l.take x ++ [l[x]] := List.take_succ_eq_append_getElem hlt
        have TK := Aside0.mk htk
        have K5 := Aside0.mk (K2.out.below hB.out)
        have HW5 := Aside0.mk (bstep HW2.out hB.out)
        have LX56 := Aside0.mk (show ((l.take x).length + 1) * 56 ≤ 140737488355328 by rw [List.length_take]; omega)
        clear a0 a1 hdi hM htk hll hda hvx
        generalize l[x] = xx at *
        go_upto_region 11 with (first
          | (refine ld_rng rfl 63 _ rfl (p := ⟨w.heap.size, 0, none⟩) rfl (cs := cs) K5.out.rng Try.underlying63 rfl ?_ ?_; (rw [HL.out]; kernel_rfl))
          | (go_at_call 32; refine (rday_calls cs b id (f + x) id (f + x) xx.f2 xx.f3.f0 xx.f3.f1 xx.f4.f0 xx.f4.f1 0 w0 _ (bstep HB0.out HW5.out) HK.out HDA.out).mono ?_; rintro e w6 ⟨rfl, hb6⟩; have R6 := Aside0.mk (Kd.R_alloc (Kd.R_below hR.out hb6) (.cells (acL id (f + x) xx.f2 xx.f3.f0 xx.f3.f1 xx.f4.f0 xx.f4.f1).toArray 66)); have HB6 := Aside0.mk ((bstep hB.out hb6).alloc (bstep hB.out hb6).size (.cells (acL id (f + x) xx.f2 xx.f3.f0 xx.f3.f1 xx.f4.f0 xx.f4.f1).toArray 66)); have SZ6 := Aside0.mk HB6.out.size; have D6 := Aside0.mk (Blk.new w6 (acL id (f + x) xx.f2 xx.f3.f0 xx.f3.f1 xx.f4.f0 xx.f4.f1) 66); clear hb6)
          | (refine st_new rfl 66 _ _ rfl rfl (cs := zAc) (vs := acL id (f + x) xx.f2 xx.f3.f0 xx.f3.f1 xx.f4.f0 xx.f4.f1) rfl rfl rfl ?_ (by simp [Value.oneCell']) ?_; kernel_rfl))
        generalize w6.alloc (.cells (acL id (f + x) xx.f2 xx.f3.f0 xx.f3.f1 xx.f4.f0 xx.f4.f1).toArray 66) = W7 at *
        generalize w6.heap.size = Bd at *
        go_wp2_with (first
          | (refine ld_rng rfl 66 _ rfl (p := ⟨Bd, 0, none⟩) rfl (cs := acL id (f + x) xx.f2 xx.f3.f0 xx.f3.f1 xx.f4.f0 xx.f4.f1) D6.out.rng Try.underlying66 rfl ?_ ?_; kernel_rfl)
          | (at_builtin; refine Kd.R_append k66 W2.heap.size rfl _ _ 70 66 (.agg (acL 0 0 0 0 0 0 0).toArray) 56 rfl Try.underlying70 (by kernel_rfl) rfl (by decide) (by decide) u12 (l.take x) xx (acL id (f + x) xx.f2 xx.f3.f0 xx.f3.f1 xx.f4.f0 xx.f4.f1) (fun _ => True) (fun _ => False) rfl rfl (HM.out _) (fun _ h => h.elim) (fun _ _ => trivial) R6.out HB6.out SZ6.out ?_ ?_; (exact LX56.out); intro v7 w7 hR7 hB7 hg7 hat7))
        refine ⟨⟨x + 1, by omega, by congr 1; omega, ⟨by rw [TK.out]; exact hR7⟩, ⟨hB7⟩⟩, ?_⟩
        simp [intOf]
        omega
      · have hle : ¬ f + x ≤ t := by omega
        have hxl : l.take x = l := List.take_of_length_le (by omega)
        have HR := hR.out
        rw [hxl] at HR
        have HRR := Aside0.mk HR
        clear HR hxl
        have hws := HW2.out.size
        go_wp2
        go_ret2
        exact ⟨_, rfl, Kd.R_lower HRR.out (by omega), HW2.out.trans (hB.out.mono (by omega))⟩
end Go.Proofs.Ytlmabdiodopidaa.G
end
section
set_option linter.unusedVariables false
set_option linter.unusedSimpArgs false
namespace Go.Proofs.Ytlmabdiodopidaa.G
set_option maxRecDepth 100000
open Go.RowKit Go.Proofs.YtlmabdiodopidaaW.PrintWords Go.Proofs.YtlmabdiodopidaaW.PrintLast Go.Proofs.YtlmabdiodopidaaW.PrintMore Go.Proofs.Ytlmabdiodopidaa.P
/-- small books -/
def FewB (b : Bk) : Prop := b.accs.length ≤ 12 ∧ b.prods.length ≤ 30 ∧ b.jour.length ≤ 60 ∧ FewT b.prods ∧ (∀ e ∈ b.jour, e.legs.length ≤ 20)
/-- an answer that means small books -/
def FewAns (b : Bk) (r : Bool) : Prop := r = true → FewB b
theorem fewAns_false (b : Bk) : FewAns b false := fun h => by cases h
/-- what Few answers -/
def FewRes (b : Bk) (e : Ending) : Prop := ∃ r, e = .returned (.bool r) ∧ FewAns b r
theorem fewRes_false (b : Bk) : FewRes b (.returned (.bool false)) := ⟨_, rfl, fewAns_false b⟩
theorem prd_tiers {w : World} {x : Prd} {cs : List Value} (h : kPrd.K w x cs) : ∃ A c B d, cs[7]? = some (.slice A x.cr.tiers.length c) ∧ cs[12]? = some (.slice B x.db.tiers.length d) := by
  obtain ⟨-, h1, h2⟩ := prd_sides h
  obtain ⟨A, c, -, a0, -⟩ := intr_get h1
  obtain ⟨B, d, -, b0, -⟩ := intr_get h2
  refine ⟨A, c, B, d, ?_, ?_⟩
  · rw [← a0]; simp [List.getElem?_take, List.getElem?_drop]
  · rw [← b0]; simp [List.getElem?_take, List.getElem?_drop]
theorem get_nat {α : Type} (l : List α) (z : α) (x : Nat) (h : x < l.length) : l.getD (x : Int).toNat z = l[x] := by rw [Int.toNat_natCast, List.getD_eq_getElem?_getD, List.getElem?_eq_getElem h, Option.getD_some]
theorem all_snoc {α : Type} {l : List α} {p : α → Prop} {x : Nat} (h : x < l.length) (hp : ∀ a ∈ l.take x, p a) (hx : p l[x]) : ∀ a ∈ l.take (x + 1), p a := by
  intro a ha
  rw [List.take_succ_eq_append_getElem h, List.mem_append, List.mem_singleton] at ha
  rcases ha with ha | rfl
  · exact hp a ha
  · exact hx
set_option maxHeartbeats 2000000 in
theorem few_calls (cs : List Value) (b : Bk) (w0 w : World) (hb0 : Below w0.heap.size w0 w) (hk : kBk.K w0 b cs) :
    Calls Try.prog 29 #[.agg cs.toArray] w fun e w' => FewRes b e ∧ Below w.heap.size w w' := by
  obtain ⟨A1, c1, A2, c2, A3, c3, hl, g1, g2, g3, hP, hA, hJ, l1, l2, l3⟩ := bk_get hk
  have HP := Aside0.mk hP
  have HJ := Aside0.mk hJ
  have HB0 := Aside0.mk hb0
  have mP := Kd.C_max hP
  have mA := Kd.C_max hA
  have mJ := Kd.C_max hJ
  clear hk hA hP hJ hb0 hl l1 l2 l3
  go_enter Try.func29, Try.ntmps29
  have HB := Aside0.mk ((Below.refl w.heap.size w).alloc (Nat.le_refl _) (.cells cs.toArray 63))
  have HC := Aside0.mk (Blk.new w cs 63)
  by_cases hs : b.accs.length ≤ 12 ∧ b.prods.length ≤ 30 ∧ b.jour.length ≤ 60
  · obtain ⟨s1, s2, s3⟩ := hs
    go_upto_region 3 with (fail)
    generalize w.alloc (.cells cs.toArray 63) = W at *
    have r17 := (HC.out.cell 17).trans g1
    have r19 := (HC.out.cell 19).trans g3
    clear g1 g2 g3
    have R17 := Aside0.mk r17
    have R19 := Aside0.mk r19
    clear r17 r19 HC
    go_wp2
    go_loopw [3] (fun i wr => ∃ x : Nat, x ≤ b.prods.length ∧ i = .int .i64 x ∧ Aside0 (∀ p ∈ b.prods.take x, p.cr.tiers.length ≤ 20 ∧ p.db.tiers.length ≤ 20) ∧ Aside0 (Below W.heap.size W wr)) (fun i _ => b.prods.length - (intOf i).toNat)
    case atStart => exact ⟨0, by omega, rfl, ⟨fun p hp => by cases hp⟩, ⟨Below.refl _ _⟩⟩
    case round =>
      obtain ⟨x, k1, rfl, HT, HW⟩ := hrel
      have f17 := keepc HW.out R17.out
      by_cases hlt : x < b.prods.length
      · obtain ⟨ad, ce, hA, hcl, hcK, hcR⟩ := row_at HP.out zPrd (x : Int) (by omega) (by omega)
        subst hA
        rw [get_nat _ _ _ hlt] at hcK
        obtain ⟨TA, tc, TB, td, p7, p12⟩ := prd_tiers hcK
        have CR := (hcR.below (bstep HB0.out (bstep HB.out HW.out)))
        have y7 : wr.cell? ⟨(ad.add (x * 19)).block, (ad.add (x * 19)).off + 7, none⟩ = some (.slice TA b.prods[x].cr.tiers.length tc) := CR.at_ 7 (by omega) p7
        have y12 : wr.cell? ⟨(ad.add (x * 19)).block, (ad.add (x * 19)).off + 12, none⟩ = some (.slice TB b.prods[x].db.tiers.length td) := CR.at_ 12 (by omega) p12
        have HN := Aside0.mk (all_snoc hlt HT.out (p := fun p : Prd => p.cr.tiers.length ≤ 20 ∧ p.db.tiers.length ≤ 20))
        clear hcl hcK hcR p7 p12 CR HT
        generalize b.prods[x] = px at *
        by_cases hs : px.cr.tiers.length ≤ 20 ∧ px.db.tiers.length ≤ 20
        · obtain ⟨t1, t2⟩ := hs
          have HN2 := Aside0.mk (HN.out ⟨t1, t2⟩)
          go_wp2
          go_roundw
          case rel => exact ⟨x + 1, by omega, by go_num, HN2, HW⟩
          case measure => simp [intOf]; omega
        · have hc : (decide ((20 : Int) < px.cr.tiers.length) || decide ((20 : Int) < px.db.tiers.length)) = true := by
            rw [Bool.or_eq_true, decide_eq_true_iff, decide_eq_true_iff]; omega
          go_wp2
          all_goals
            go_ret
            exact ⟨fewRes_false b, bstep HB.out HW.out⟩
      · have hxl : b.prods.take x = b.prods := List.take_of_length_le (by omega)
        have hfew : FewT b.prods := by have h := HT.out; rw [hxl] at h; exact h
        have FEW := Aside0.mk hfew
        have W19 := Aside0.mk (keepc HW.out R19.out)
        have HW1 := Aside0.mk (bstep HB.out HW.out)
        clear hfew HT R17 R19 HW HB hxl
        go_wp2
        clear f17 hlt k1
        generalize hWe : wr = W1 at *
        clear hWe
        go_loopw [4] (fun i wr => ∃ x : Nat, x ≤ b.jour.length ∧ i = .int .i64 x ∧ Aside0 (∀ p ∈ b.jour.take x, p.legs.length ≤ 20) ∧ Aside0 (Below W1.heap.size W1 wr)) (fun i _ => b.jour.length - (intOf i).toNat)
        case atStart => exact ⟨0, by omega, rfl, ⟨fun p hp => by cases hp⟩, ⟨Below.refl _ _⟩⟩
        case round =>
          obtain ⟨x, k1, rfl, HT, HW⟩ := hrel
          have f19 := keepc HW.out W19.out
          by_cases hlt : x < b.jour.length
          · obtain ⟨ad, ce, hA, hcl, hcK, hcR⟩ := row_at HJ.out zEnt (x : Int) (by omega) (by omega)
            subst hA
            rw [get_nat _ _ _ hlt] at hcK
            obtain ⟨TA, tc, -, -, -, p8, -⟩ := ent_get hcK
            have CR := (hcR.below (bstep HB0.out (bstep HW1.out HW.out)))
            have y8 : wr.cell? ⟨(ad.add (x * 10)).block, (ad.add (x * 10)).off + 8, none⟩ = some (.slice TA b.jour[x].legs.length tc) := CR.at_ 8 (by omega) p8
            have HN := Aside0.mk (all_snoc hlt HT.out (p := fun p : Ent => p.legs.length ≤ 20))
            clear hcl hcK hcR p8 CR HT
            generalize b.jour[x] = px at *
            by_cases hs : px.legs.length ≤ 20
            · have HN2 := Aside0.mk (HN.out hs)
              go_wp2
              go_roundw
              case rel => exact ⟨x + 1, by omega, by go_num, HN2, HW⟩
              case measure => simp [intOf]; omega
            · go_wp2
              go_ret
              exact ⟨fewRes_false b, bstep HW1.out HW.out⟩
          · have hxl : b.jour.take x = b.jour := List.take_of_length_le (by omega)
            have hle : ∀ e ∈ b.jour, e.legs.length ≤ 20 := by have h := HT.out; rw [hxl] at h; exact h
            have LE := Aside0.mk hle
            clear hle HT hxl
            go_wp2
            go_ret
            exact ⟨⟨_, rfl, fun _ => ⟨s1, s2, s3, FEW.out, LE.out⟩⟩, bstep HW1.out HW.out⟩
  · go_wp2
    all_goals
      go_ret
      exact ⟨fewRes_false b, HB.out⟩
end Go.Proofs.Ytlmabdiodopidaa.G
end
section
set_option linter.unusedVariables false
set_option linter.unusedSimpArgs false
namespace Go.Proofs.Ytlmabdiodopidaa.G
open Go.RowKit Go.Proofs.Ytlmabdiodopidaa.P Go.Proofs.YtlmabdiodopidaaW.PrintWords Go.Proofs.YtlmabdiodopidaaW.PrintMore
/-- the days of a year -/
def yl (y : Int) : Int := if leapY y = true then 366 else 365
/-- the first day of a year -/
def bg (y : Int) : Int := 365 * (y - 2000) + (y - 2000 + 3) / 4 - (if y > 2100 then 1 else 0)
/-- the days of a month -/
def ml (y m : Int) : Int := if m = 2 then (if leapY y = true then 29 else 28) else if m = 4 ∨ m = 6 ∨ m = 9 ∨ m = 11 then 30 else 31
theorem begin_eq {y : Int} (h1 : 2000 ≤ y) (h2 : y ≤ 2300) : date_begin.f y = some (bg y) := by
  unfold date_begin.f bg
  rw [w64 (x := y - 2000) (by omega) (by omega), w64 (x := y - 2000 + 3) (by omega) (by omega), Int.tdiv_eq_ediv_of_nonneg (by omega), w64 (x := (y - 2000 + 3) / 4) (by omega) (by omega), w64 (x := 365 * (y - 2000)) (by omega) (by omega), w64 (x := (y - 2000 + 3) / 4 - 1) (by omega) (by omega)]
  split
  · rw [w64 (by omega) (by omega)]
    congr 1
    omega
  · rw [w64 (by omega) (by omega)]
    congr 1
    omega
theorem bg_succ {y : Int} (h1 : 2000 ≤ y) (h2 : y < 2200) : bg (y + 1) = bg y + yl y := by
  have key : ∀ n : Fin 200, bg (2000 + (n.val : Int) + 1) = bg (2000 + (n.val : Int)) + yl (2000 + (n.val : Int)) := by decide +kernel
  have h := key ⟨(y - 2000).toNat, by omega⟩
  have e : 2000 + (((y - 2000).toNat : Nat) : Int) = y := by omega
  simp only [e] at h
  exact h
theorem bg_mono {a b : Int} (h : a ≤ b) : bg a ≤ bg b := by
  unfold bg
  split <;> split <;> omega
theorem bg_bd {a : Int} (h1 : 2000 ≤ a) (h2 : a ≤ 2300) : 0 ≤ bg a ∧ bg a ≤ 366 * (a - 2000) := by
  unfold bg
  split <;> omega
theorem ref_Leap_eq (y : Int) : corebankref04_Leap.f y = some (leapY y) := by
  unfold corebankref04_Leap.f leapY
  by_cases h4 : Int.tmod y 4 = 0
  · rw [if_pos h4, h4]
    by_cases h100 : Int.tmod y 100 = 0
    · rw [if_pos h100, h100]
      simp
    · rw [if_neg h100]
      simp [h100]
  · rw [if_neg h4]
    simp [h4]
theorem ref_yl_eq (y : Int) : corebankref04_yearLength.f y = some (yl y) := by
  unfold corebankref04_yearLength.f yl
  rw [ref_Leap_eq]
  simp only [Option.bind_some]
  split <;> rfl
theorem month_cases {m : Int} (h1 : 1 ≤ m) (h2 : m ≤ 12) : m = 1 ∨ m = 2 ∨ m = 3 ∨ m = 4 ∨ m = 5 ∨ m = 6 ∨ m = 7 ∨ m = 8 ∨ m = 9 ∨ m = 10 ∨ m = 11 ∨ m = 12 := by omega
theorem length_eq {y m : Int} (h1 : 1 ≤ m) (h2 : m ≤ 12) : date_length.f y m = some (ml y m) := by
  unfold date_length.f ml
  rcases month_cases h1 h2 with rfl | rfl | rfl | rfl | rfl | rfl | rfl | rfl | rfl | rfl | rfl | rfl
  all_goals
    cases leapY y <;> rfl
theorem ref_length_eq {k : Nat} {y m : Int} (hk : 2 ≤ k) (h1 : 1 ≤ m) (h2 : m ≤ 12) : corebankref04_Length.f k y m = some (ml y m) := by
  obtain ⟨k, rfl⟩ : ∃ j, k = j + 2 := ⟨k - 2, by omega⟩
  unfold corebankref04_Length.f ml
  rcases month_cases h1 h2 with rfl | rfl | rfl | rfl | rfl | rfl | rfl | rfl | rfl | rfl | rfl | rfl
  all_goals
    simp only [corebankref04_Length.j0, corebankref04_Length.j1, ref_Leap_eq, Option.bind_some]
    cases leapY y <;> rfl
theorem ml_bd (y m : Int) : 28 ≤ ml y m ∧ ml y m ≤ 31 := by
  unfold ml
  split
  · split <;> omega
  · split <;> omega
/-- the days of the last j months of a year -/
def rs (y : Int) : Nat → Int
  | 0 => 0
  | j + 1 => ml y (12 - j) + rs y j
theorem rs_all (y : Int) : rs y 12 = yl y := by
  simp only [rs, ml, yl]
  cases leapY y <;> rfl
theorem months (y : Int) : ∀ (j : Nat) (d : Int), j ≤ 12 → 0 ≤ d → d < rs y j → d < 1000 → ∃ r : Int × Int × Int, ∀ k, j + 3 ≤ k → date_Civil.l1 k d y (13 - j) = some r ∧ corebankref04_Civil.l1 k d y (13 - j) = some r
  | 0, d, _, h0, h1, _ => by
    unfold rs at h1
    omega
  | j + 1, d, hj, h0, h1, hd => by
    have e : (13 - ((j + 1 : Nat) : Int)) = 12 - j := by omega
    have b := ml_bd y (12 - j)
    unfold rs at h1
    rw [e]
    by_cases hc : d ≥ ml y (12 - j)
    · obtain ⟨r, hr⟩ := months y j (d - ml y (12 - j)) (by omega) (by omega) (by omega) (by omega)
      refine ⟨r, fun k hk => ?_⟩
      obtain ⟨k, rfl⟩ : ∃ i, k = i + 1 := ⟨k - 1, by omega⟩
      have h3 := hr k (by omega)
      have e2 : (12 - (j : Int)) + 1 = 13 - j := by omega
      simp only [date_Civil.l1, corebankref04_Civil.l1]
      rw [length_eq (by omega) (by omega), ref_length_eq (by omega) (by omega) (by omega)]
      simp only [Option.bind_some]
      rw [if_pos hc, if_pos hc, w64 (x := d - ml y (12 - j)) (by omega) (by omega), w64 (x := 12 - (j : Int) + 1) (by omega) (by omega), e2]
      exact h3
    · refine ⟨(y, 12 - j, wrap64 (d + 1)), fun k hk => ?_⟩
      obtain ⟨k, rfl⟩ : ∃ i, k = i + 1 := ⟨k - 1, by omega⟩
      simp only [date_Civil.l1, corebankref04_Civil.l1]
      rw [length_eq (by omega) (by omega), ref_length_eq (by omega) (by omega) (by omega)]
      simp only [Option.bind_some]
      rw [if_neg hc, if_neg hc]
      exact ⟨rfl, rfl⟩
theorem years_p {D Y : Int} (hY : 2000 ≤ Y ∧ Y ≤ 2199) (h1 : bg Y ≤ D) (h2 : D < bg (Y + 1)) {r : Int × Int × Int} (hr : ∀ k, 15 ≤ k → date_Civil.l1 k (D - bg Y) Y 1 = some r) : ∀ (n : Nat) (y : Int), 2000 ≤ y → Y - y = n → ∀ k, n + 16 ≤ k → date_Civil.l0 k D y = some r
  | 0, y, hy, hn, k, hk => by
    obtain rfl : y = Y := by omega
    obtain ⟨k, rfl⟩ : ∃ i, k = i + 1 := ⟨k - 1, by omega⟩
    have b := bg_bd (a := y + 1) (by omega) (by omega)
    have b0 := bg_bd (a := y) (by omega) (by omega)
    simp only [date_Civil.l0]
    rw [w64 (x := y + 1) (by omega) (by omega), begin_eq (by omega) (by omega), begin_eq (by omega) (by omega)]
    simp only [Option.bind_some]
    rw [if_neg (by omega), w64 (by omega) (by omega)]
    exact hr k (by omega)
  | n + 1, y, hy, hn, k, hk => by
    obtain ⟨k, rfl⟩ : ∃ i, k = i + 1 := ⟨k - 1, by omega⟩
    have b := bg_mono (a := y + 1) (b := Y) (by omega)
    simp only [date_Civil.l0]
    rw [w64 (x := y + 1) (by omega) (by omega), begin_eq (by omega) (by omega)]
    simp only [Option.bind_some]
    rw [if_pos (by omega)]
    exact years_p hY h1 h2 hr n (y + 1) (by omega) (by omega) k (by omega)
theorem years_r {D Y : Int} (hY : 2000 ≤ Y ∧ Y ≤ 2199) (h1 : bg Y ≤ D) (h2 : D < bg (Y + 1)) {r : Int × Int × Int} (hr : ∀ k, 15 ≤ k → corebankref04_Civil.l1 k (D - bg Y) Y 1 = some r) : ∀ (n : Nat) (y : Int), 2000 ≤ y → Y - y = n → ∀ k, n + 16 ≤ k → corebankref04_Civil.l0 k (D - bg y) y 1 = some r
  | 0, y, hy, hn, k, hk => by
    obtain rfl : y = Y := by omega
    obtain ⟨k, rfl⟩ : ∃ i, k = i + 1 := ⟨k - 1, by omega⟩
    have b := bg_succ (y := y) (by omega) (by omega)
    simp only [corebankref04_Civil.l0]
    rw [ref_yl_eq]
    simp only [Option.bind_some]
    rw [if_neg (by omega)]
    exact hr k (by omega)
  | n + 1, y, hy, hn, k, hk => by
    obtain ⟨k, rfl⟩ : ∃ i, k = i + 1 := ⟨k - 1, by omega⟩
    have b := bg_mono (a := y + 1) (b := Y) (by omega)
    have b1 := bg_succ (y := y) (by omega) (by omega)
    have b2 := bg_bd (a := y + 1) (by omega) (by omega)
    have b3 := bg_bd (a := Y + 1) (by omega) (by omega)
    have e : D - bg y - yl y = D - bg (y + 1) := by omega
    simp only [corebankref04_Civil.l0]
    rw [ref_yl_eq]
    simp only [Option.bind_some]
    rw [if_pos (by omega), w64 (x := D - bg y - yl y) (by omega) (by omega), w64 (x := y + 1) (by omega) (by omega), e]
    exact years_r hY h1 h2 hr n (y + 1) (by omega) (by omega) k (by omega)
theorem ex_year {D : Int} (h0 : 0 ≤ D) : ∀ n : Nat, D < bg (2000 + n) → ∃ Y : Int, 2000 ≤ Y ∧ Y < 2000 + n ∧ bg Y ≤ D ∧ D < bg (Y + 1)
  | 0, h => by
    have : bg (2000 + ((0 : Nat) : Int)) = 0 := by decide
    omega
  | n + 1, h => by
    by_cases hc : D < bg (2000 + n)
    · obtain ⟨Y, a, b, c, d⟩ := ex_year h0 n hc
      exact ⟨Y, a, by omega, c, d⟩
    · refine ⟨2000 + n, by omega, by omega, by omega, ?_⟩
      have e : (2000 + (n : Int)) + 1 = 2000 + ((n + 1 : Nat) : Int) := by omega
      rw [e]
      exact h
theorem civil_both {D : Int} (hv : vd D = true) : ∃ r : Int × Int × Int, ∀ k, 300 ≤ k → date_Civil.f k D = some r ∧ corebankref04_Civil.f k D = some r := by
  obtain ⟨h0, h1⟩ := vd_bd hv
  have e0 : bg (2000 + ((200 : Nat) : Int)) = 73049 := by decide
  obtain ⟨Y, y1, y2, y3, y4⟩ := ex_year h0 200 (by omega)
  have b0 := bg_bd (a := Y) (by omega) (by omega)
  have b1 := bg_bd (a := Y + 1) (by omega) (by omega)
  have bs := bg_succ (y := Y) (by omega) (by omega)
  have hyl : yl Y ≤ 366 := by unfold yl; split <;> omega
  obtain ⟨r, hr⟩ := months Y 12 (D - bg Y) (by omega) (by omega) (by rw [rs_all]; omega) (by omega)
  have e1 : (13 - ((12 : Nat) : Int)) = 1 := by decide
  rw [e1] at hr
  have p := years_p ⟨y1, by omega⟩ y3 y4 (fun k hk => (hr k (by omega)).1)
  have q := years_r ⟨y1, by omega⟩ y3 y4 (fun k hk => (hr k (by omega)).2)
  refine ⟨r, fun k hk => ⟨?_, ?_⟩⟩
  · unfold date_Civil.f
    rw [vd_f, hv]
    simp only [Option.bind_some, if_true]
    rw [Int.tdiv_eq_ediv_of_nonneg h0, w64 (x := D / 366) (by omega) (by omega), w64 (x := 2000 + D / 366) (by omega) (by omega)]
    exact p (Y - (2000 + D / 366)).toNat (2000 + D / 366) (by omega) (by omega) k (by omega)
  · unfold corebankref04_Civil.f
    rw [rvd_f, hv]
    simp only [Option.bind_some, if_true]
    have e2 : bg 2000 = 0 := by decide
    have h := q (Y - 2000).toNat 2000 (by omega) (by omega) k (by omega)
    rw [e2, Int.sub_zero] at h
    exact h
theorem thirty_both {day : Int} (hv : vd day = true) : ∃ t : Int, ∀ k, 301 ≤ k → daycount_Thirty.f k day (wrap64 (day + 1)) = some t ∧ corebankref06_Thirty.f k day (wrap64 (day + 1)) = some t := by
  obtain ⟨r, hr⟩ := civil_both hv
  obtain ⟨h0, h1⟩ := vd_bd hv
  rw [w64 (x := day + 1) (by omega) (by omega)]
  unfold daycount_Thirty.f corebankref06_Thirty.f
  rw [vd_f, rvd_f, vd_f, rvd_f, hv]
  simp only [Option.bind_some, if_true]
  cases hw : vd (day + 1)
  · refine ⟨0, fun k hk => ?_⟩
    obtain ⟨k, rfl⟩ : ∃ i, k = i + 1 := ⟨k - 1, by omega⟩
    exact ⟨rfl, rfl⟩
  · obtain ⟨s, hs⟩ := civil_both hw
    refine ⟨wrap64 ((wrap64 ((wrap64 ((wrap64 (360 * (wrap64 (s.1 - r.1)))) + (wrap64 (30 * (wrap64 (s.2.1 - r.2.1)))))) + (mn s.2.2 30))) - (mn r.2.2 30)), fun k hk => ?_⟩
    obtain ⟨k, rfl⟩ : ∃ i, k = i + 1 := ⟨k - 1, by omega⟩
    simp only [daycount_Thirty.j0, corebankref06_Thirty.j0]
    rw [(hr k (by omega)).1, (hr k (by omega)).2, (hs k (by omega)).1, (hs k (by omega)).2]
    simp only [Option.bind_some]
    exact ⟨rfl, rfl⟩
theorem weight_both (basis : Int) {day : Int} (hv : vd day = true) : ∃ wt : Int, ∀ k, 302 ≤ k → daycount_Weight.f k basis day = some wt ∧ corebankref06_Weight.f k basis day = some wt := by
  obtain ⟨r, hr⟩ := civil_both hv
  obtain ⟨t, ht⟩ := thirty_both hv
  unfold daycount_Weight.f corebankref06_Weight.f
  rw [vd_f, rvd_f, hv]
  simp only [Option.bind_some, if_true]
  by_cases b3 : basis = 3
  · subst b3
    refine ⟨if leapY r.1 = true then 4380 else 4392, fun k hk => ?_⟩
    rw [(hr k (by omega)).1, (hr k (by omega)).2]
    simp only [Option.bind_some]
    rw [ref_Leap_eq, date_Leap.f]
    simp only [Option.bind_some]
    cases leapY r.1 <;> exact ⟨rfl, rfl⟩
  by_cases b2 : basis = 2
  · subst b2
    refine ⟨4392, fun k hk => ?_⟩
    rw [(hr k (by omega)).1]
    exact ⟨rfl, rfl⟩
  by_cases b4 : basis = 4
  · subst b4
    refine ⟨wrap64 (t * 4453), fun k hk => ?_⟩
    rw [(hr k (by omega)).1, (ht k (by omega)).1, (ht k (by omega)).2]
    exact ⟨rfl, by show some (wrap64 (4453 * t)) = _; rw [Int.mul_comm]⟩
  by_cases b1 : basis = 1
  · subst b1
    refine ⟨4453, fun k hk => ?_⟩
    rw [(hr k (by omega)).1]
    exact ⟨rfl, rfl⟩
  · refine ⟨0, fun k hk => ?_⟩
    rw [(hr k (by omega)).1]
    simp [b3, b2, b4, b1]
end Go.Proofs.Ytlmabdiodopidaa.G
end
section
set_option linter.unusedVariables false
set_option linter.unusedSimpArgs false
namespace Go.Proofs.Ytlmabdiodopidaa.G
open Go.RowKit Go.Proofs.Ytlmabdiodopidaa.P
theorem wrap_sub (a b : Int) : wrap64 (wrap64 a - b) = wrap64 (a - b) := by unfold wrap64; omega
theorem wrap_wrap2 (a b : Int) : wrap64 (a + wrap64 b) = wrap64 (a + b) := by unfold wrap64; omega
theorem okI_wrap (a : Int) : okI (wrap64 a) := by unfold okI wrap64; omega
/-- what the legs of an account sum to -/
def legS (acct : Int) : List Leg → Int
  | [] => 0
  | x :: l => (if (x.acct == acct) = true then x.amt else 0) + legS acct l
/-- what the entries sum to that are booked and valued by then -/
def jourS (acct booked value : Int) : List Ent → Int
  | [] => 0
  | e :: l => (if e.booked ≤ booked ∧ e.value ≤ value then legS acct e.legs else 0) + jourS acct booked value l
theorem mvR_sum (acct : Int) : ∀ (l : List Leg) (n : Int), okI n → l.foldl (mvS acct) n = wrap64 (n - legS acct l)
  | [], n, h => by
    rw [List.foldl_nil, legS, Int.sub_zero, wrap64_of h]
  | x :: l, n, h => by
    rw [List.foldl_cons, legS]
    unfold mvS
    split
    · rw [← show mvS acct = fun n (x : Leg) => if (x.acct == acct) = true then wrap64 (n - x.amt) else n from rfl, mvR_sum acct l _ (okI_wrap _), wrap_sub]
      congr 1
      omega
    · rw [← show mvS acct = fun n (x : Leg) => if (x.acct == acct) = true then wrap64 (n - x.amt) else n from rfl, mvR_sum acct l n h]
      congr 1
      omega
theorem atS_legs (acct booked value bk vl : Int) : ∀ (l : List Leg) (n : Int), okI n → ((l.filter (fun l => l.acct == acct)).map (fun l => (bk, vl, l.amt))).foldl (atS booked value) n = if bk ≤ booked ∧ vl ≤ value then wrap64 (n - legS acct l) else n
  | [], n, h => by
    rw [List.filter_nil, List.map_nil, List.foldl_nil, legS, Int.sub_zero, wrap64_of h]
    split <;> rfl
  | x :: l, n, h => by
    rw [List.filter_cons, legS]
    split
    · rw [List.map_cons, List.foldl_cons]
      have e : atS booked value n (bk, vl, x.amt) = if bk ≤ booked ∧ vl ≤ value then wrap64 (n - x.amt) else n := rfl
      rw [e]
      split
      · rw [atS_legs acct booked value bk vl l _ (okI_wrap _), if_pos (by assumption), wrap_sub]
        congr 1
        omega
      · rw [atS_legs acct booked value bk vl l n h, if_neg (by assumption)]
    · rw [atS_legs acct booked value bk vl l n h, Int.zero_add]
theorem atF_sum (acct booked value : Int) : ∀ (l : List Ent) (n : Int), okI n → (mvs acct l).foldl (atS booked value) n = wrap64 (n - jourS acct booked value l)
  | [], n, h => by
    show n = _
    rw [jourS, Int.sub_zero, wrap64_of h]
  | e :: l, n, h => by
    have e1 : mvs acct (e :: l) = mvE acct e e.legs.length ++ mvs acct l := rfl
    rw [e1, List.foldl_append, jourS]
    unfold mvE
    rw [List.take_length, atS_legs acct booked value e.booked e.value e.legs n h]
    split
    · rw [atF_sum acct booked value l _ (okI_wrap _), wrap_sub]
      congr 1
      omega
    · rw [atF_sum acct booked value l n h, Int.zero_add]
theorem atR_sum (acct booked value : Int) : ∀ (l : List Ent) (n : Int), okI n → l.foldl (atRS acct booked value) n = wrap64 (n - jourS acct booked value l)
  | [], n, h => by
    rw [List.foldl_nil, jourS, Int.sub_zero, wrap64_of h]
  | e :: l, n, h => by
    rw [List.foldl_cons, jourS]
    have e1 : atRS acct booked value n e = if e.booked ≤ booked ∧ e.value ≤ value then wrap64 (n + mvR acct e.legs) else n := rfl
    rw [e1]
    split
    · rw [atR_sum acct booked value l _ (okI_wrap _), wrap_sub]
      have e2 : mvR acct e.legs = wrap64 (0 - legS acct e.legs) := mvR_sum acct e.legs 0 (by decide)
      rw [e2, Int.sub_eq_add_neg, Int.add_right_comm, wrap_wrap2]
      congr 1
      omega
    · rw [atR_sum acct booked value l n h, Int.zero_add]
theorem atF_eq (acct booked value : Int) (l : List Ent) : atF booked value (mvs acct l) = wrap64 (0 - jourS acct booked value l) := atF_sum acct booked value l 0 (by decide)
theorem atF_atR (acct booked value : Int) (l : List Ent) : atR acct booked value l = atF booked value (mvs acct l) := (atR_sum acct booked value l 0 (by decide)).trans (atF_eq acct booked value l).symm
theorem atF_ok (acct booked value : Int) (l : List Ent) : okI (atF booked value (mvs acct l)) := by
  rw [atF_eq]
  exact okI_wrap _
end Go.Proofs.Ytlmabdiodopidaa.G
end
