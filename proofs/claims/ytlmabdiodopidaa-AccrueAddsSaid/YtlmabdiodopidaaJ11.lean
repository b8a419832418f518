/- Texts of this seat, joined: Px29, RDay, PWt, PAt, PureT, PureV, PureG, PureS, PureWA, PureW, PureH, PDay, PSid, PAdd, RTot, LawAdd. Lemmas for the claim's theorem. -/
import Derived.Deep.RegionHeld3
import Derived.Laws.BitsAllLaws
import Derived.Test.YtlmabdiodopidaaJ10
section
set_option linter.unusedVariables false
set_option linter.unusedSimpArgs false
namespace Go.Proofs.Ytlmabdiodopidaa.P
open Go.Proofs.Ytlmabdiodopidaa.G
attribute [local go_sem high] un_not64 un_noti run_add64
open Go.RowKit Go.Proofs.YtlmabdiodopidaaW.PrintWords Go.Proofs.YtlmabdiodopidaaW.PrintLast Go.Proofs.YtlmabdiodopidaaW.PrintMore
attribute [local go_sem] max2_int min2_int max_two min_two max_three min_three max_four min_four   -- for this text's walks alone
set_option linter.unusedVariables false
set_option linter.unusedSimpArgs false

/-! ### corebankref14_Grains: function 25 -/
mutual
def corebankref14_Grains.l0 : Nat → List (S43) → Int → Int → Option (Int × Int × Int)
  | 0, _, _, _ => none
  | k + 1, x0, x1, x6 => if x6 < (x0.length : Int) then (if 0 ≤ x6 then (if ((rd_T43 x0 x6).f0) < 0 then (some (0, 0, 1)) else (if ((rd_T43 x0 x6).f1) < 0 then (some (0, 0, 1)) else (if ((rd_T43 x0 x6).f1) > 1000000 then (some (0, 0, 1)) else (corebankref14_Grains.l0 k x0 x1 (wrap64 (x6 + 1)))))) else (none)) else (if x1 < 0 then (corebankref14_Grains.j1 k x0 x1 true) else (corebankref14_Grains.j1 k x0 x1 (decide (x1 > 6412320000))))
def corebankref14_Grains.j1 : Nat → List (S43) → Int → Bool → Option (Int × Int × Int)
  | 0, _, _, _ => none
  | k + 1, x0, x1, x51 => if x51 = true then (some (0, 0, 1)) else (corebankref14_Grains.l1 k x0 x1 0 0 0)
def corebankref14_Grains.l1 : Nat → List (S43) → Int → Int → Int → Int → Option (Int × Int × Int)
  | 0, _, _, _, _, _ => none
  | k + 1, x0, x1, x8, x379000, x379001 => if x8 < (x0.length : Int) then (if 0 ≤ x8 then ((corebankref01_Mul.f k ((rd_T43 x0 x8).f0) ((rd_T43 x0 x8).f1)).bind fun bt381 => ((corebankref01_Scale.f k bt381.1 bt381.2 x1).bind fun bt383 => ((corebankref01_Add.f x379000 x379001 bt383.1 bt383.2.1).bind fun bt387 => (corebankref14_Grains.l1 k x0 x1 (wrap64 (x8 + 1)) bt387.1 bt387.2.1)))) else (none)) else (some (x379000, x379001, 0))
end
def corebankref14_Grains.f (k : Nat) (l0 : List (S43)) (a1 : Int) : Option (Int × Int × Int) := if (l0.length : Int) > 6 then (some (0, 0, 5)) else (corebankref14_Grains.l0 k l0 a1 0)
theorem corebankref14_Grains.mono_l : ∀ k, (∀ y0 y1 y2, LeO (corebankref14_Grains.l0 k y0 y1 y2) (corebankref14_Grains.l0 (k + 1) y0 y1 y2)) ∧ (∀ y0 y1 y2, LeO (corebankref14_Grains.j1 k y0 y1 y2) (corebankref14_Grains.j1 (k + 1) y0 y1 y2)) ∧ (∀ y0 y1 y2 y3 y4, LeO (corebankref14_Grains.l1 k y0 y1 y2 y3 y4) (corebankref14_Grains.l1 (k + 1) y0 y1 y2 y3 y4))
  | 0 => ⟨fun _ _ _ r h => by simp [corebankref14_Grains.l0] at h, fun _ _ _ r h => by simp [corebankref14_Grains.j1] at h, fun _ _ _ _ _ r h => by simp [corebankref14_Grains.l1] at h⟩
  | k + 1 => by
    obtain ⟨ih0, ih1, ih2⟩ := corebankref14_Grains.mono_l k
    refine ⟨?_, ?_, ?_⟩
    · intro y0 y1 y2
      unfold corebankref14_Grains.l0
      repeat' first
      | (with_reducible exact ih0 _ _ _)
      | (with_reducible exact ih1 _ _ _)
      | (with_reducible exact ih2 _ _ _ _ _)
      | (with_reducible exact corebankref01_Mul.mono _ _ _)
      | (with_reducible exact corebankref01_Scale.mono _ _ _ _)
      | (with_reducible exact LeO.refl _)
      | (with_reducible exact LeO.none _)
      | (with_reducible refine LeO.ite ?_ ?_)
      | (with_reducible refine LeO.bind ?_ (fun _ => ?_))
      | exact ih0 _ _ _
      | exact ih1 _ _ _
      | exact ih2 _ _ _ _ _
      | exact corebankref01_Mul.mono _ _ _
      | exact corebankref01_Scale.mono _ _ _ _
      | exact LeO.none _
      | refine LeO.ite ?_ ?_
      | refine LeO.bind ?_ (fun _ => ?_)
    · intro y0 y1 y2
      unfold corebankref14_Grains.j1
      repeat' first
      | (with_reducible exact ih0 _ _ _)
      | (with_reducible exact ih1 _ _ _)
      | (with_reducible exact ih2 _ _ _ _ _)
      | (with_reducible exact corebankref01_Mul.mono _ _ _)
      | (with_reducible exact corebankref01_Scale.mono _ _ _ _)
      | (with_reducible exact LeO.refl _)
      | (with_reducible exact LeO.none _)
      | (with_reducible refine LeO.ite ?_ ?_)
      | (with_reducible refine LeO.bind ?_ (fun _ => ?_))
      | exact ih0 _ _ _
      | exact ih1 _ _ _
      | exact ih2 _ _ _ _ _
      | exact corebankref01_Mul.mono _ _ _
      | exact corebankref01_Scale.mono _ _ _ _
      | exact LeO.none _
      | refine LeO.ite ?_ ?_
      | refine LeO.bind ?_ (fun _ => ?_)
    · intro y0 y1 y2 y3 y4
      unfold corebankref14_Grains.l1
      repeat' first
      | (with_reducible exact ih0 _ _ _)
      | (with_reducible exact ih1 _ _ _)
      | (with_reducible exact ih2 _ _ _ _ _)
      | (with_reducible exact corebankref01_Mul.mono _ _ _)
      | (with_reducible exact corebankref01_Scale.mono _ _ _ _)
      | (with_reducible exact LeO.refl _)
      | (with_reducible exact LeO.none _)
      | (with_reducible refine LeO.ite ?_ ?_)
      | (with_reducible refine LeO.bind ?_ (fun _ => ?_))
      | exact ih0 _ _ _
      | exact ih1 _ _ _
      | exact ih2 _ _ _ _ _
      | exact corebankref01_Mul.mono _ _ _
      | exact corebankref01_Scale.mono _ _ _ _
      | exact LeO.none _
      | refine LeO.ite ?_ ?_
      | refine LeO.bind ?_ (fun _ => ?_)
theorem corebankref14_Grains.mono : ∀ a0 a1 k, LeO (corebankref14_Grains.f k a0 a1) (corebankref14_Grains.f (k + 1) a0 a1) := by
  intro a0 a1 k
  obtain ⟨ih0, ih1, ih2⟩ := corebankref14_Grains.mono_l k
  unfold corebankref14_Grains.f
  repeat' first
      | (with_reducible exact ih0 _ _ _)
      | (with_reducible exact ih1 _ _ _)
      | (with_reducible exact ih2 _ _ _ _ _)
      | (with_reducible exact corebankref01_Mul.mono _ _ _)
      | (with_reducible exact corebankref01_Scale.mono _ _ _ _)
      | (with_reducible exact LeO.refl _)
      | (with_reducible exact LeO.none _)
      | (with_reducible refine LeO.ite ?_ ?_)
      | (with_reducible refine LeO.bind ?_ (fun _ => ?_))
      | exact ih0 _ _ _
      | exact ih1 _ _ _
      | exact ih2 _ _ _ _ _
      | exact corebankref01_Mul.mono _ _ _
      | exact corebankref01_Scale.mono _ _ _ _
      | exact LeO.none _
      | refine LeO.ite ?_ ?_
      | refine LeO.bind ?_ (fun _ => ?_)
def corebankref14_Grains.T14 : Bool × List (List Nat × List Nat) := (true, [([], []), ([], []), ([0, 1], [0, 1]), ([2], [2]), ([3], [3]), ([], []), ([], []), ([5, 6], [5, 6]), ([7], [7]), ([8], [8]), ([4, 9], [4, 9]), ([], []), ([10, 11, 10], [10, 11]), ([12], [12]), ([13], [13]), ([13], [13]), ([], []), ([16, 14, 12, 0, 1, 2, 3, 4, 5, 6, 7, 8, 9, 10, 11, 12, 13, 14, 16], [14, 16]), ([15, 17, 0, 1, 2, 3, 4, 5, 6, 7, 8, 9, 10, 11, 12, 13, 14, 15, 16, 17], [15])])
def corebankref14_Grains.B14 : List Nat := [0, 0, 3, 7, 15, 0, 0, 96, 224, 480, 1023, 0, 4095, 8191, 16383, 16383, 0, 98303, 262143]
theorem corebankref14_Grains.tab14 : rtab .any (opsOf Try.f25 14) = corebankref14_Grains.T14 := by kernel_rfl
theorem corebankref14_Grains.bits14 : waitsOk corebankref14_Grains.T14.2 corebankref14_Grains.B14 = true := by kernel_rfl
set_option maxHeartbeats 8000000 in
set_option maxRecDepth 100000 in
theorem corebankref14_Grains.calls (k : Nat) (A0 : Option Addr) (c0 : Nat) (l0 : List (S43)) (a1 : Int) (r1 : Int) (r2 : Int) (r3 : Int) (w : World) (hr0 : Kd.C k43 w A0 l0.length l0) (hc0 : l0.length ≤ c0) (h : corebankref14_Grains.f k l0 a1 = some (r1, r2, r3)) :
    Calls Try.prog 25 #[.slice A0 l0.length c0, .int .i64 a1] w fun e w' => e = .returned (.tuple #[.agg #[.int .i64 r1, .int .u64 r2], .int .i64 r3]) ∧ Below w.heap.size w w' := by
  have hu35 := Try.underlying35
  have HR0 := Aside0.mk hr0
  have HC0 := Aside0.mk hc0
  clear hr0 hc0
  have HB := Aside0.mk (Below.refl w.heap.size w)
  have H : (if (l0.length : Int) > 6 then (some (0, 0, 5)) else (corebankref14_Grains.l0 k l0 a1 0)) = some (r1, r2, r3) := h
  clear h
  by_cases c3 : (l0.length : Int) > 6
  · rw [if_pos c3] at H
    have c3b0 : decide (6 < (l0.length : Int)) = true := decide_eq_true c3
    have c3b1 : decide (6 < l0.length) = true := decide_eq_true (by omega)
    clear c3
    simp only [Option.some.injEq, Prod.mk.injEq] at H
    obtain ⟨rfl, rfl, rfl⟩ := H
    go_enter Try.func25, Try.ntmps25
    go_wp2_with (first | ((with_reducible refine gate_dst (N := 4) rfl ?_); refine box_event ?hg (N := 4) ?hd (cs := #[.int .i64 0, .int .u64 0]) (t := 35) ?hr ?_; (case hd => rfl); (case hg => rfl); (case hr => first | (go_simp; done) | (go_simp; rfl)); intro gb374 hg w4 hbox hb; have BK374 := Aside0.mk (hbox); have GW374 := ge HB hg; have GE374 := ge HB hg; replace HB := bs HB hb; clear hb hbox hg; obtain ⟨hcz5_0, hcz5_1, hfz5_0, hfz5_1⟩ := cz2 BK374))
    refine bodyPost_ret (results_ct rfl _ _ gb374 35 #[.int .i64 0, .int .u64 0] (0, 0) _ rfl (bp BK374) Try.underlying35 rfl (by kernel_rfl)) rfl ?_
    exact ⟨by first | rfl | (simp [errW_none, errW_some] <;> rfl) | (simp [*, errW_none, errW_some] <;> rfl), hq HB⟩
  · rw [if_neg c3] at H
    have c3b0 : decide (6 < (l0.length : Int)) = false := decide_eq_false c3
    have c3b1 : decide (6 < l0.length) = false := decide_eq_false (by omega)
    clear c3
    have H' := Aside0.mk H
    clear H
    go_enter Try.func25, Try.ntmps25
    go_wp2_with (first | ((with_reducible refine gate_dst (N := 4) rfl ?_); refine box_event ?hg (N := 4) ?hd (cs := #[.int .i64 0, .int .u64 0]) (t := 35) ?hr ?_; (case hd => rfl); (case hg => rfl); (case hr => first | (go_simp; done) | (go_simp; rfl)); intro gb374 hg w6 hbox hb; have BK374 := Aside0.mk (hbox); have GW374 := ge HB hg; have GE374 := ge HB hg; replace HB := bs HB hb; clear hb hbox hg))
    go_loopg [6] k (fun kq v6 w' => ∃ (x6_1 : Int) (x375000_1 : Int) (x375001_1 : Int), v6 = .int .i64 x6_1 ∧ Aside0 (corebankref14_Grains.l0 kq l0 a1 x6_1 = some (r1, r2, r3)) ∧ Aside0 (kq ≤ k) ∧ Aside0 (w'.heap[gb374]? = some (.cells #[.int .i64 x375000_1, .int .u64 x375001_1] 35 (0, 0))) ∧ Aside0 (Below w.heap.size w w'))
    case atStart => exact ⟨(0), (0), (0), (by first | rfl | (simp; done) | (simp [*]; done)), H', ⟨Nat.le_refl _⟩, ⟨bq BK374⟩, ⟨hq HB⟩⟩
    case round =>
      clear H'
      try clear c2
      try clear p2
      try clear c3
      try clear c3b0
      try clear c3b1
      try clear hcz5_0
      try clear hcz5_1
      try clear hfz5_0
      try clear hfz5_1
      obtain ⟨x6_1, x375000_1, x375001_1, rfl, HA, HK1, BK374, HB⟩ := hrel
      cases gk with
      | zero => exact absurd HA.out (by simp [corebankref14_Grains.l0])
      | succ k1 =>
        have H := HA.out
        clear HA
        simp only [corebankref14_Grains.l0] at H
        by_cases c7 : x6_1 < (l0.length : Int)
        · rw [if_pos c7] at H
          have c7b0 : decide (x6_1 < (l0.length : Int)) = true := decide_eq_true c7
          clear c7
          by_cases c8 : 0 ≤ x6_1
          · rw [if_pos c8] at H
            have c8b0 : decide (0 ≤ x6_1) = true := decide_eq_true c8
            clear c8
            by_cases c9 : ((rd_T43 l0 x6_1).f0) < 0
            · rw [if_pos c9] at H
              have c9b0 : decide (((rd_T43 l0 x6_1).f0) < 0) = true := decide_eq_true c9
              clear c9
              simp only [Option.some.injEq, Prod.mk.injEq] at H
              obtain ⟨rfl, rfl, rfl⟩ := H
              have p375 : 0 ≤ (x6_1 : Int) := of_decide_eq_true (by first | (with_reducible assumption) | assumption)
              have q375 : x6_1 < (l0.length : Int) := of_decide_eq_true (by first | (with_reducible assumption) | assumption)
              obtain ⟨ad375, e375, hx375_0, hx375_1⟩ := at_T43 HR0.out x6_1 p375 q375
              cases e375
              replace hx375_0 := (HB.out.cell (World.block_lt_of_cell? w _ hx375_0)).trans hx375_0
              replace hx375_1 := (HB.out.cell (World.block_lt_of_cell? w _ hx375_1)).trans hx375_1
              replace p375 := eq_true p375
              replace q375 := eq_true q375
              obtain ⟨hcz10_0, hcz10_1, hfz10_0, hfz10_1⟩ := cz2 BK374
              go_wp2
              refine bodyPost_ret (results_ct rfl _ _ gb374 35 #[.int .i64 0, .int .u64 0] (0, 0) _ rfl (bp BK374) Try.underlying35 rfl (by kernel_rfl)) rfl ?_
              exact ⟨by first | rfl | (simp [errW_none, errW_some] <;> rfl) | (simp [*, errW_none, errW_some] <;> rfl), hq HB⟩
            · rw [if_neg c9] at H
              have c9b0 : decide (((rd_T43 l0 x6_1).f0) < 0) = false := decide_eq_false c9
              clear c9
              by_cases c11 : ((rd_T43 l0 x6_1).f1) < 0
              · rw [if_pos c11] at H
                have c11b0 : decide (((rd_T43 l0 x6_1).f1) < 0) = true := decide_eq_true c11
                clear c11
                simp only [Option.some.injEq, Prod.mk.injEq] at H
                obtain ⟨rfl, rfl, rfl⟩ := H
                have p375 : 0 ≤ (x6_1 : Int) := of_decide_eq_true (by first | (with_reducible assumption) | assumption)
                have q375 : x6_1 < (l0.length : Int) := of_decide_eq_true (by first | (with_reducible assumption) | assumption)
                obtain ⟨ad375, e375, hx375_0, hx375_1⟩ := at_T43 HR0.out x6_1 p375 q375
                cases e375
                replace hx375_0 := (HB.out.cell (World.block_lt_of_cell? w _ hx375_0)).trans hx375_0
                replace hx375_1 := (HB.out.cell (World.block_lt_of_cell? w _ hx375_1)).trans hx375_1
                replace p375 := eq_true p375
                replace q375 := eq_true q375
                have p376 : 0 ≤ (x6_1 : Int) := of_decide_eq_true (by first | (with_reducible assumption) | assumption)
                have q376 : x6_1 < (l0.length : Int) := of_decide_eq_true (by first | (with_reducible assumption) | assumption)
                obtain ⟨ad376, e376, hx376_0, hx376_1⟩ := at_T43 HR0.out x6_1 p376 q376
                obtain rfl : ad375 = ad376 := (by injection e376)
                replace hx376_0 := (HB.out.cell (World.block_lt_of_cell? w _ hx376_0)).trans hx376_0
                replace hx376_1 := (HB.out.cell (World.block_lt_of_cell? w _ hx376_1)).trans hx376_1
                replace p376 := eq_true p376
                replace q376 := eq_true q376
                obtain ⟨hcz12_0, hcz12_1, hfz12_0, hfz12_1⟩ := cz2 BK374
                go_wp2
                refine bodyPost_ret (results_ct rfl _ _ gb374 35 #[.int .i64 0, .int .u64 0] (0, 0) _ rfl (bp BK374) Try.underlying35 rfl (by kernel_rfl)) rfl ?_
                exact ⟨by first | rfl | (simp [errW_none, errW_some] <;> rfl) | (simp [*, errW_none, errW_some] <;> rfl), hq HB⟩
              · rw [if_neg c11] at H
                have c11b0 : decide (((rd_T43 l0 x6_1).f1) < 0) = false := decide_eq_false c11
                clear c11
                by_cases c13 : ((rd_T43 l0 x6_1).f1) > 1000000
                · rw [if_pos c13] at H
                  have c13b0 : decide (1000000 < ((rd_T43 l0 x6_1).f1)) = true := decide_eq_true c13
                  clear c13
                  simp only [Option.some.injEq, Prod.mk.injEq] at H
                  obtain ⟨rfl, rfl, rfl⟩ := H
                  have p375 : 0 ≤ (x6_1 : Int) := of_decide_eq_true (by first | (with_reducible assumption) | assumption)
                  have q375 : x6_1 < (l0.length : Int) := of_decide_eq_true (by first | (with_reducible assumption) | assumption)
                  obtain ⟨ad375, e375, hx375_0, hx375_1⟩ := at_T43 HR0.out x6_1 p375 q375
                  cases e375
                  replace hx375_0 := (HB.out.cell (World.block_lt_of_cell? w _ hx375_0)).trans hx375_0
                  replace hx375_1 := (HB.out.cell (World.block_lt_of_cell? w _ hx375_1)).trans hx375_1
                  replace p375 := eq_true p375
                  replace q375 := eq_true q375
                  have p376 : 0 ≤ (x6_1 : Int) := of_decide_eq_true (by first | (with_reducible assumption) | assumption)
                  have q376 : x6_1 < (l0.length : Int) := of_decide_eq_true (by first | (with_reducible assumption) | assumption)
                  obtain ⟨ad376, e376, hx376_0, hx376_1⟩ := at_T43 HR0.out x6_1 p376 q376
                  obtain rfl : ad375 = ad376 := (by injection e376)
                  replace hx376_0 := (HB.out.cell (World.block_lt_of_cell? w _ hx376_0)).trans hx376_0
                  replace hx376_1 := (HB.out.cell (World.block_lt_of_cell? w _ hx376_1)).trans hx376_1
                  replace p376 := eq_true p376
                  replace q376 := eq_true q376
                  have p377 : 0 ≤ (x6_1 : Int) := of_decide_eq_true (by first | (with_reducible assumption) | assumption)
                  have q377 : x6_1 < (l0.length : Int) := of_decide_eq_true (by first | (with_reducible assumption) | assumption)
                  obtain ⟨ad377, e377, hx377_0, hx377_1⟩ := at_T43 HR0.out x6_1 p377 q377
                  obtain rfl : ad375 = ad377 := (by injection e377)
                  replace hx377_0 := (HB.out.cell (World.block_lt_of_cell? w _ hx377_0)).trans hx377_0
                  replace hx377_1 := (HB.out.cell (World.block_lt_of_cell? w _ hx377_1)).trans hx377_1
                  replace p377 := eq_true p377
                  replace q377 := eq_true q377
                  obtain ⟨hcz14_0, hcz14_1, hfz14_0, hfz14_1⟩ := cz2 BK374
                  go_wp2
                  refine bodyPost_ret (results_ct rfl _ _ gb374 35 #[.int .i64 0, .int .u64 0] (0, 0) _ rfl (bp BK374) Try.underlying35 rfl (by kernel_rfl)) rfl ?_
                  exact ⟨by first | rfl | (simp [errW_none, errW_some] <;> rfl) | (simp [*, errW_none, errW_some] <;> rfl), hq HB⟩
                · rw [if_neg c13] at H
                  have c13b0 : decide (1000000 < ((rd_T43 l0 x6_1).f1)) = false := decide_eq_false c13
                  clear c13
                  have H' := Aside0.mk H
                  clear H
                  have p375 : 0 ≤ (x6_1 : Int) := of_decide_eq_true (by first | (with_reducible assumption) | assumption)
                  have q375 : x6_1 < (l0.length : Int) := of_decide_eq_true (by first | (with_reducible assumption) | assumption)
                  obtain ⟨ad375, e375, hx375_0, hx375_1⟩ := at_T43 HR0.out x6_1 p375 q375
                  cases e375
                  replace hx375_0 := (HB.out.cell (World.block_lt_of_cell? w _ hx375_0)).trans hx375_0
                  replace hx375_1 := (HB.out.cell (World.block_lt_of_cell? w _ hx375_1)).trans hx375_1
                  replace p375 := eq_true p375
                  replace q375 := eq_true q375
                  have p376 : 0 ≤ (x6_1 : Int) := of_decide_eq_true (by first | (with_reducible assumption) | assumption)
                  have q376 : x6_1 < (l0.length : Int) := of_decide_eq_true (by first | (with_reducible assumption) | assumption)
                  obtain ⟨ad376, e376, hx376_0, hx376_1⟩ := at_T43 HR0.out x6_1 p376 q376
                  obtain rfl : ad375 = ad376 := (by injection e376)
                  replace hx376_0 := (HB.out.cell (World.block_lt_of_cell? w _ hx376_0)).trans hx376_0
                  replace hx376_1 := (HB.out.cell (World.block_lt_of_cell? w _ hx376_1)).trans hx376_1
                  replace p376 := eq_true p376
                  replace q376 := eq_true q376
                  have p377 : 0 ≤ (x6_1 : Int) := of_decide_eq_true (by first | (with_reducible assumption) | assumption)
                  have q377 : x6_1 < (l0.length : Int) := of_decide_eq_true (by first | (with_reducible assumption) | assumption)
                  obtain ⟨ad377, e377, hx377_0, hx377_1⟩ := at_T43 HR0.out x6_1 p377 q377
                  obtain rfl : ad375 = ad377 := (by injection e377)
                  replace hx377_0 := (HB.out.cell (World.block_lt_of_cell? w _ hx377_0)).trans hx377_0
                  replace hx377_1 := (HB.out.cell (World.block_lt_of_cell? w _ hx377_1)).trans hx377_1
                  replace p377 := eq_true p377
                  replace q377 := eq_true q377
                  go_wp2
                  go_roundg k1
                  case measure => have := HK1.out; omega
                  case rel => exact ⟨(wrap64 (x6_1 + 1)), (x375000_1), (x375001_1), (by first | rfl | (simp; done) | (simp [*]; done)), H', ⟨by have := HK1.out; omega⟩, ⟨bq BK374⟩, ⟨hq HB⟩⟩
          · rw [if_neg c8] at H
            exact absurd H (by simp)
        · rw [if_neg c7] at H
          have c7b0 : decide (x6_1 < (l0.length : Int)) = false := decide_eq_false c7
          clear c7
          have HC15 := Aside0.mk H
          clear H
          go_upto_region 8 with (fail)
          go_cut [51] (fun v51 wc => ∃ (kq : Nat) (x51_14 : Bool), v51 = .bool x51_14 ∧ Aside0 (corebankref14_Grains.j1 kq l0 a1 x51_14 = some (r1, r2, r3)) ∧ Aside0 (kq ≤ k1) ∧ Aside0 (wc.heap[gb374]? = some (.cells #[.int .i64 x375000_1, .int .u64 x375001_1] 35 (0, 0))) ∧ Aside0 (Below w.heap.size w wc))
          case first =>
            have H := HC15.out
            clear HC15
            by_cases c16 : a1 < 0
            · rw [if_pos c16] at H
              have c16b0 : decide (a1 < 0) = true := decide_eq_true c16
              clear c16
              (first | rw [c16b0] | (simp only [i64_w, i32_w]; rw [c16b0]) | skip)
              have H' := Aside0.mk H
              clear H
              go_wp2
              go_meet
              case rel => exact ⟨_, (true), (by first | rfl | (simp; done) | (simp [*]; done)), H', ⟨by have := HK1.out; first | omega | exact Nat.le_refl _⟩, ⟨bq BK374⟩, ⟨hq HB⟩⟩
            · rw [if_neg c16] at H
              have c16b0 : decide (a1 < 0) = false := decide_eq_false c16
              clear c16
              (first | rw [c16b0] | (simp only [i64_w, i32_w]; rw [c16b0]) | skip)
              have H' := Aside0.mk H
              clear H
              go_wp2
              go_meet
              case rel => exact ⟨_, (decide (a1 > 6412320000)), (by first | rfl | (simp; done) | (simp [*]; done)), H', ⟨by have := HK1.out; first | omega | exact Nat.le_refl _⟩, ⟨bq BK374⟩, ⟨hq HB⟩⟩
          case rest =>
            clear HC15
            try clear c1
            try clear c2
            try clear p2
            try clear c3
            try clear c3b0
            try clear c3b1
            try clear p3
            try clear q3
            try clear hx3
            try clear p6
            try clear c7
            try clear c7b0
            try clear c8
            try clear c8b0
            try clear c9
            try clear c9b0
            try clear c11
            try clear c11b0
            try clear c13
            try clear c13b0
            try clear c16
            try clear c16b0
            try clear hcz10_0
            try clear hcz10_1
            try clear hcz12_0
            try clear hcz12_1
            try clear hcz14_0
            try clear hcz14_1
            try clear hcz5_0
            try clear hcz5_1
            try clear hfz10_0
            try clear hfz10_1
            try clear hfz12_0
            try clear hfz12_1
            try clear hfz14_0
            try clear hfz14_1
            try clear hfz5_0
            try clear hfz5_1
            try clear hx375_0
            try clear hx375_1
            try clear hx376_0
            try clear hx376_1
            try clear hx377_0
            try clear hx377_1
            try clear p2
            try clear p375
            try clear p376
            try clear p377
            try clear q375
            try clear q376
            try clear q377
            obtain ⟨kq, x51_14, rfl, HA, HJ14, BK374, HB⟩ := hcut
            cases kq with
            | zero => exact absurd HA.out (by simp [corebankref14_Grains.j1])
            | succ kj14 =>
              have H := HA.out
              clear HA
              simp only [corebankref14_Grains.j1] at H
              by_cases c17 : x51_14 = true
              · subst c17
                have H1 : (some (0, 0, 1)) = some (r1, r2, r3) := by rw [if_pos rfl] at H; exact H
                clear H
                have H := H1
                clear H1
                simp only [Option.some.injEq, Prod.mk.injEq] at H
                obtain ⟨rfl, rfl, rfl⟩ := H
                obtain ⟨hcz18_0, hcz18_1, hfz18_0, hfz18_1⟩ := cz2 BK374
                go_wp2
                refine bodyPost_ret (results_ct rfl _ _ gb374 35 #[.int .i64 0, .int .u64 0] (0, 0) _ rfl (bp BK374) Try.underlying35 rfl (by kernel_rfl)) rfl ?_
                exact ⟨by first | rfl | (simp [errW_none, errW_some] <;> rfl) | (simp [*, errW_none, errW_some] <;> rfl), hq HB⟩
              · replace c17 := Bool.eq_false_iff.mpr c17
                subst c17
                have H1 : (corebankref14_Grains.l1 kj14 l0 a1 0 0 0) = some (r1, r2, r3) := by rw [if_neg (show ¬ (false = true) by decide)] at H; exact H
                clear H
                have H := H1
                clear H1
                have H' := Aside0.mk H
                clear H
                go_wp2_with (first | ((with_reducible refine gate_dst (N := 7) rfl ?_); refine box_event ?hg (N := 7) ?hd (cs := #[.int .i64 0, .int .u64 0]) (t := 35) ?hr ?_; (case hd => rfl); (case hg => rfl); (case hr => first | (go_simp; done) | (go_simp; rfl)); intro gb378 hg w19 hbox hb; have BK378 := Aside0.mk (hbox); have GW378 := ge HB hg; have GE378 := ge HB hg; have NB374_378 := nl BK374 hg; have NB378_374 := ng NB374_378; replace BK374 := bb BK374 hb; replace HB := bs HB hb; clear hb hbox hg; have hnb20 := NB378_374.out; have hnc20 := NB374_378.out; obtain ⟨hcz21_0, hcz21_1, hfz21_0, hfz21_1⟩ := cz2 BK378))
                go_loopg [8] kj14 (fun kq v8 w' => ∃ (x8_3 : Int) (x379000_3 : Int) (x379001_3 : Int), v8 = .int .i64 x8_3 ∧ Aside0 (corebankref14_Grains.l1 kq l0 a1 x8_3 x379000_3 x379001_3 = some (r1, r2, r3)) ∧ Aside0 (kq ≤ kj14) ∧ Aside0 (w'.heap[gb374]? = some (.cells #[.int .i64 x375000_1, .int .u64 x375001_1] 35 (0, 0))) ∧ Aside0 (w'.heap[gb378]? = some (.cells #[.int .i64 x379000_3, .int .u64 x379001_3] 35 (0, 0))) ∧ Aside0 (Below w.heap.size w w'))
                case atStart => exact ⟨(0), (0), (0), (by first | rfl | (simp; done) | (simp [*]; done)), H', ⟨Nat.le_refl _⟩, ⟨bq BK374⟩, ⟨bp BK378⟩, ⟨hq HB⟩⟩
                case round =>
                  clear H'
                  try clear c1
                  try clear c2
                  try clear p2
                  try clear c3
                  try clear c3b0
                  try clear c3b1
                  try clear p3
                  try clear q3
                  try clear hx3
                  try clear p6
                  try clear c7
                  try clear c7b0
                  try clear c8
                  try clear c8b0
                  try clear c9
                  try clear c9b0
                  try clear c11
                  try clear c11b0
                  try clear c13
                  try clear c13b0
                  try clear c16
                  try clear c16b0
                  try clear c17
                  try clear c20
                  try clear hcz10_0
                  try clear hcz10_1
                  try clear hcz12_0
                  try clear hcz12_1
                  try clear hcz14_0
                  try clear hcz14_1
                  try clear hcz18_0
                  try clear hcz18_1
                  try clear hcz21_0
                  try clear hcz21_1
                  try clear hcz5_0
                  try clear hcz5_1
                  try clear hfz10_0
                  try clear hfz10_1
                  try clear hfz12_0
                  try clear hfz12_1
                  try clear hfz14_0
                  try clear hfz14_1
                  try clear hfz18_0
                  try clear hfz18_1
                  try clear hfz21_0
                  try clear hfz21_1
                  try clear hfz5_0
                  try clear hfz5_1
                  try clear hx375_0
                  try clear hx375_1
                  try clear hx376_0
                  try clear hx376_1
                  try clear hx377_0
                  try clear hx377_1
                  try clear p2
                  try clear p3
                  try clear p375
                  try clear p376
                  try clear p377
                  try clear p6
                  try clear q3
                  try clear q375
                  try clear q376
                  try clear q377
                  obtain ⟨x8_3, x379000_3, x379001_3, rfl, HA, HK3, BK374, BK378, HB⟩ := hrel
                  cases gk with
                  | zero => exact absurd HA.out (by simp [corebankref14_Grains.l1])
                  | succ k3 =>
                    have H := HA.out
                    clear HA
                    simp only [corebankref14_Grains.l1] at H
                    by_cases c22 : x8_3 < (l0.length : Int)
                    · rw [if_pos c22] at H
                      have c22b0 : decide (x8_3 < (l0.length : Int)) = true := decide_eq_true c22
                      clear c22
                      by_cases c23 : 0 ≤ x8_3
                      · rw [if_pos c23] at H
                        have c23b0 : decide (0 ≤ x8_3) = true := decide_eq_true c23
                        clear c23
                        replace H := Option.bind_eq_some_iff.mp H
                        obtain ⟨⟨t381, t382⟩, A240, H⟩ := H
                        replace H : ((corebankref01_Scale.f k3 t381 t382 a1).bind fun bt383 => ((corebankref01_Add.f x379000_3 x379001_3 bt383.1 bt383.2.1).bind fun bt387 => (corebankref14_Grains.l1 k3 l0 a1 (wrap64 (x8_3 + 1)) bt387.1 bt387.2.1))) = some (r1, r2, r3) := H
                        have A24 := Aside0.mk A240
                        clear A240
                        replace H := Option.bind_eq_some_iff.mp H
                        obtain ⟨⟨t383, t384, t385⟩, A250, H⟩ := H
                        replace H : ((corebankref01_Add.f x379000_3 x379001_3 t383 t384).bind fun bt387 => (corebankref14_Grains.l1 k3 l0 a1 (wrap64 (x8_3 + 1)) bt387.1 bt387.2.1)) = some (r1, r2, r3) := H
                        have A25 := Aside0.mk A250
                        clear A250
                        replace H := Option.bind_eq_some_iff.mp H
                        obtain ⟨⟨t387, t388, t389⟩, A260, H⟩ := H
                        replace H : (corebankref14_Grains.l1 k3 l0 a1 (wrap64 (x8_3 + 1)) t387 t388) = some (r1, r2, r3) := H
                        have A26 := Aside0.mk A260
                        clear A260
                        have H' := Aside0.mk H
                        clear H
                        try go_wp2
                        replace BK374 := bd1 BK374
                        replace BK378 := bd1 BK378
                        replace HB := hb1 HB
                        have p379 : 0 ≤ (x8_3 : Int) := of_decide_eq_true (by first | (with_reducible assumption) | assumption)
                        have q379 : x8_3 < (l0.length : Int) := of_decide_eq_true (by first | (with_reducible assumption) | assumption)
                        obtain ⟨ad379, e379, hx379_0, hx379_1⟩ := at_T43 HR0.out x8_3 p379 q379
                        have hw379_1 := hx379_1
                        have hw379_0 := hx379_0
                        cases e379
                        replace hx379_0 := (HB.out.cell (World.block_lt_of_cell? w _ hx379_0)).trans hx379_0
                        replace hx379_1 := (HB.out.cell (World.block_lt_of_cell? w _ hx379_1)).trans hx379_1
                        replace p379 := eq_true p379
                        replace q379 := eq_true q379
                        have p380 : 0 ≤ (x8_3 : Int) := of_decide_eq_true (by first | (with_reducible assumption) | assumption)
                        have q380 : x8_3 < (l0.length : Int) := of_decide_eq_true (by first | (with_reducible assumption) | assumption)
                        obtain ⟨ad380, e380, hx380_0, hx380_1⟩ := at_T43 HR0.out x8_3 p380 q380
                        have hw380_1 := hx380_1
                        have hw380_0 := hx380_0
                        obtain rfl : ad379 = ad380 := (by injection e380)
                        replace hx380_0 := (HB.out.cell (World.block_lt_of_cell? w _ hx380_0)).trans hx380_0
                        replace hx380_1 := (HB.out.cell (World.block_lt_of_cell? w _ hx380_1)).trans hx380_1
                        replace p380 := eq_true p380
                        replace q380 := eq_true q380
                        refine start_ (n := 19) (S := fun w' => w'.cell? (ad379.add ((x8_3).toNat * 2)) = some (.int .i64 ((rd_T43 l0 x8_3).f0)) ∧ w'.cell? ⟨(ad379.add ((x8_3).toNat * 2)).block, (ad379.add ((x8_3).toNat * 2)).off + 1, none⟩ = some (.int .i64 ((rd_T43 l0 x8_3).f1)) ∧ w'.cell? (ad379.add ((x8_3).toNat * 2)) = some (.int .i64 ((rd_T43 l0 x8_3).f0)) ∧ w'.cell? ⟨(ad379.add ((x8_3).toNat * 2)).block, (ad379.add ((x8_3).toNat * 2)).off + 1, none⟩ = some (.int .i64 ((rd_T43 l0 x8_3).f1))) (ds := []) #[false, false, false, false, false, false, false, false, false, false, false, false, false, false, false, false, false, false, false] (by kernel_rfl) rfl rfl ⟨((HB.out.cell (World.block_lt_of_cell? w _ hw379_0)).trans hw379_0), ((HB.out.cell (World.block_lt_of_cell? w _ hw379_1)).trans hw379_1), ((HB.out.cell (World.block_lt_of_cell? w _ hw380_0)).trans hw380_0), ((HB.out.cell (World.block_lt_of_cell? w _ hw380_1)).trans hw380_1)⟩ (fun hHeld => ?_); refine with_tabW corebankref14_Grains.tab14 corebankref14_Grains.bits14 (fun HT_ HW_ => ?_)
                        generalize wr.drew = w27 at BK374 BK378 HB hx379_0 hx379_1 hx380_0 hx380_1 hHeld ⊢
                        refine pz (i := 0) (N := some 61) #[true, false, false, false, false, false, false, false, false, false, false, false, false, false, false, false, false, false, false] rfl rfl (any_of HT_.out (by kernel_rfl)) (fun _ _ _ h => h) ?_
                        refine pz (i := 1) (N := some 62) #[true, true, false, false, false, false, false, false, false, false, false, false, false, false, false, false, false, false, false] rfl rfl (any_of HT_.out (by kernel_rfl)) (fun _ _ _ h => h) ?_
                        refine pz (i := 2) (N := some 63) #[true, true, true, false, false, false, false, false, false, false, false, false, false, false, false, false, false, false, false] rfl rfl (any_of HT_.out (by kernel_rfl)) (fun _ _ _ h => h) ?_
                        refine pz (i := 3) (N := some 64) #[true, true, true, true, false, false, false, false, false, false, false, false, false, false, false, false, false, false, false] rfl rfl (any_of HT_.out (by kernel_rfl)) (fun _ _ _ h => h) ?_
                        refine pz (i := 5) (N := some 66) #[true, true, true, true, false, true, false, false, false, false, false, false, false, false, false, false, false, false, false] rfl rfl (any_of HT_.out (by kernel_rfl)) (fun _ _ _ h => h) ?_
                        refine pz (i := 6) (N := some 67) #[true, true, true, true, false, true, true, false, false, false, false, false, false, false, false, false, false, false, false] rfl rfl (any_of HT_.out (by kernel_rfl)) (fun _ _ _ h => h) ?_
                        refine pz (i := 7) (N := some 68) #[true, true, true, true, false, true, true, true, false, false, false, false, false, false, false, false, false, false, false] rfl rfl (any_of HT_.out (by kernel_rfl)) (fun _ _ _ h => h) ?_
                        refine pz (i := 8) (N := some 69) #[true, true, true, true, false, true, true, true, true, false, false, false, false, false, false, false, false, false, false] rfl rfl (any_of HT_.out (by kernel_rfl)) (fun _ _ _ h => h) ?_
                        refine pz (i := 11) (N := some 72) #[true, true, true, true, false, true, true, true, true, false, false, true, false, false, false, false, false, false, false] rfl rfl (any_of HT_.out (by kernel_rfl)) (fun _ _ _ h => h) ?_
                        refine tz4 (i := 4) (N := some 65) #[true, true, true, true, true, true, true, true, true, false, false, true, false, false, false, false, false, false, false] rfl rfl (take_ofW HT_.out HW_.out (by kernel_rfl)) (fun _ _ _ h => h) hHeld ?_
                        refine tz4 (i := 9) (N := some 70) #[true, true, true, true, true, true, true, true, true, true, false, true, false, false, false, false, false, false, false] rfl rfl (take_ofW HT_.out HW_.out (by kernel_rfl)) (fun _ _ _ h => h) hHeld ?_
                        refine join_ (σ := Nat) 2 #[true, true, true, true, true, true, true, true, true, true, true, true, true, true, true, true, true, false, false] (fun s_ => [(71, .agg #[.int .i64 t381, .int .u64 t382]), (73, .tuple #[.agg #[.int .i64 t383, .int .u64 t384], .int .i64 t385]), (9, .pointer (some ⟨s_, 0, none⟩)), (60, .tuple #[.agg #[.int .i64 t383, .int .u64 t384], .int .i64 t385]), (74, .agg #[.int .i64 t383, .int .u64 t384]), (75, .int .i64 t385)]) (fun s_ w' => (w'.cell? (ad379.add ((x8_3).toNat * 2)) = some (.int .i64 ((rd_T43 l0 x8_3).f0)) ∧ w'.cell? ⟨(ad379.add ((x8_3).toNat * 2)).block, (ad379.add ((x8_3).toNat * 2)).off + 1, none⟩ = some (.int .i64 ((rd_T43 l0 x8_3).f1)) ∧ w'.cell? (ad379.add ((x8_3).toNat * 2)) = some (.int .i64 ((rd_T43 l0 x8_3).f0)) ∧ w'.cell? ⟨(ad379.add ((x8_3).toNat * 2)).block, (ad379.add ((x8_3).toNat * 2)).off + 1, none⟩ = some (.int .i64 ((rd_T43 l0 x8_3).f1))) ∧ (w'.heap[gb374]? = some (.cells #[.int .i64 x375000_1, .int .u64 x375001_1] 35 (0, 0))) ∧ (w'.heap[gb378]? = some (.cells #[.int .i64 x379000_3, .int .u64 x379001_3] 35 (0, 0))) ∧ (w'.heap[s_]? = some (.cells #[.int .i64 0, .int .u64 0] 35 (0, 0))) ∧ (w.heap.size ≤ s_) ∧ (w.heap.size ≤ s_) ∧ (gb374 ≠ s_) ∧ (s_ ≠ gb374) ∧ (gb378 ≠ s_) ∧ (s_ ≠ gb378) ∧ (Below w.heap.size w w')) ?_ ?_
                        rotate_left
                        · intro hCont
                          refine two_ (i := 10) (j := 16) (Ni := some 71) (Nj := some 9) #[true, true, true, true, true, true, true, true, true, true, true, true, false, false, false, false, false, false, false] #[true, true, true, true, true, true, true, true, true, true, false, true, false, false, false, false, true, false, false] rfl rfl rfl rfl (two_of HT_.out (by kernel_rfl)) (by decide) (by decide) (fun K hK => ?_) (fun K hK => ?_)
                          · skip
                            refine goes_ Try.func47 (by kernel_rfl) rfl #[.int .i64 ((rd_T43 l0 x8_3).f0), .int .i64 ((rd_T43 l0 x8_3).f1)] (by rfl) rfl rfl zm ?_
                            with_reducible refine (corebankref01_Mul.calls k3 ((rd_T43 l0 x8_3).f0) ((rd_T43 l0 x8_3).f1) t381 t382 _ A24.out).mono ?_
                            rintro e w28 ⟨rfl, hb⟩
                            refine ⟨_, rfl, ?_⟩
                            replace BK374 := bb BK374 hb
                            replace BK378 := bb BK378 hb
                            replace HB := bs HB hb
                            (try clear hb)
                            (try clear hb2)
                            (try clear hk)
                            (try clear hi)
                            refine hK.out _ _ ⟨((HB.out.cell (World.block_lt_of_cell? w _ hw379_0)).trans hw379_0), ((HB.out.cell (World.block_lt_of_cell? w _ hw379_1)).trans hw379_1), ((HB.out.cell (World.block_lt_of_cell? w _ hw380_0)).trans hw380_0), ((HB.out.cell (World.block_lt_of_cell? w _ hw380_1)).trans hw380_1)⟩ (fun hHeld => ?_)
                            clear hK K
                            refine norm_ (a' := ?_) ?_ ?_
                            rotate_left
                            · show Act.put _ (some 71) _ = _
                              simp only [Act.put, List.setIfInBounds_toArray, List.set_cons_zero, List.set_cons_succ, i64_w, i32_w]
                              rfl
                            refine two_ (i := 12) (j := 16) (Ni := some 73) (Nj := some 9) #[true, true, true, true, true, true, true, true, true, true, true, true, true, false, false, false, false, false, false] #[true, true, true, true, true, true, true, true, true, true, true, true, false, false, false, false, true, false, false] rfl rfl rfl rfl (two_of HT_.out (by kernel_rfl)) (by decide) (by decide) (fun K hK => ?_) (fun K hK => ?_)
                            · skip
                              refine goes_ Try.func46 (by kernel_rfl) rfl #[.agg #[.int .i64 t381, .int .u64 t382], .int .i64 a1] (by rfl) rfl rfl zm ?_
                              with_reducible refine (corebankref01_Scale.calls k3 t381 t382 a1 t383 t384 t385 _ A25.out).mono ?_
                              rintro e w29 ⟨rfl, hb⟩
                              refine ⟨_, rfl, ?_⟩
                              replace BK374 := bb BK374 hb
                              replace BK378 := bb BK378 hb
                              replace HB := bs HB hb
                              (try clear hb)
                              (try clear hb2)
                              (try clear hk)
                              (try clear hi)
                              refine hK.out _ _ ⟨((HB.out.cell (World.block_lt_of_cell? w _ hw379_0)).trans hw379_0), ((HB.out.cell (World.block_lt_of_cell? w _ hw379_1)).trans hw379_1), ((HB.out.cell (World.block_lt_of_cell? w _ hw380_0)).trans hw380_0), ((HB.out.cell (World.block_lt_of_cell? w _ hw380_1)).trans hw380_1)⟩ (fun hHeld => ?_)
                              clear hK K
                              refine norm_ (a' := ?_) ?_ ?_
                              rotate_left
                              · show Act.put _ (some 73) _ = _
                                simp only [Act.put, List.setIfInBounds_toArray, List.set_cons_zero, List.set_cons_succ, i64_w, i32_w]
                                rfl
                              refine pz (i := 13) (N := some 60) #[true, true, true, true, true, true, true, true, true, true, true, true, true, true, false, false, false, false, false] rfl rfl (any_of HT_.out (by kernel_rfl)) (fun _ _ _ h => h) ?_
                              refine pz (i := 14) (N := some 74) #[true, true, true, true, true, true, true, true, true, true, true, true, true, true, true, false, false, false, false] rfl rfl (any_of HT_.out (by kernel_rfl)) (fun _ _ _ h => h) ?_
                              refine pz (i := 15) (N := some 75) #[true, true, true, true, true, true, true, true, true, true, true, true, true, true, true, true, false, false, false] rfl rfl (any_of HT_.out (by kernel_rfl)) (fun _ _ _ h => h) ?_
                              refine one_ (i := 16) (N := some 9) #[true, true, true, true, true, true, true, true, true, true, true, true, true, true, true, true, true, false, false] rfl rfl (one_of HT_.out (by kernel_rfl)) (by decide) (fun K hK => ?_)
                              refine box_step ?hg (N := 9) ?hd (cs := #[.int .i64 0, .int .u64 0]) (t := 35) ?hr ?_; (case hd => rfl); (case hg => rfl); (case hr => first | (go_simp; done) | (go_simp; rfl))
                              intro gb386 hg w30 hbox hb
                              have BK386 := Aside0.mk (hbox)
                              have GW386 := ge HB hg
                              have GE386 := ge HB hg
                              have NB374_386 := nl BK374 hg
                              have NB386_374 := ng NB374_386
                              have NB378_386 := nl BK378 hg
                              have NB386_378 := ng NB378_386
                              replace BK374 := bb BK374 hb
                              replace BK378 := bb BK378 hb
                              replace HB := bs HB hb
                              clear hb hbox hg
                              refine hK.out _ _ ⟨((HB.out.cell (World.block_lt_of_cell? w _ hw379_0)).trans hw379_0), ((HB.out.cell (World.block_lt_of_cell? w _ hw379_1)).trans hw379_1), ((HB.out.cell (World.block_lt_of_cell? w _ hw380_0)).trans hw380_0), ((HB.out.cell (World.block_lt_of_cell? w _ hw380_1)).trans hw380_1)⟩ (fun hHeld => ?_)
                              clear hK K
                              refine norm_ (a' := ?_) ?_ ?_
                              rotate_left
                              · show Act.put _ (some 9) _ = _
                                simp only [Act.put, List.setIfInBounds_toArray, List.set_cons_zero, List.set_cons_succ, i64_w, i32_w]
                                rfl
                              exact norm_ (by simp only [putAll, Act.put, List.setIfInBounds_toArray, List.set_cons_zero, List.set_cons_succ]) (hCont (gb386) _ ⟨hHeld, (bq BK374), (bq BK378), (bq BK386), GW386.out, GE386.out, NB374_386.out, NB386_374.out, NB378_386.out, NB386_378.out, (hq HB)⟩)
                            · skip
                              refine box_step ?hg (N := 9) ?hd (cs := #[.int .i64 0, .int .u64 0]) (t := 35) ?hr ?_; (case hd => rfl); (case hg => rfl); (case hr => first | (go_simp; done) | (go_simp; rfl))
                              intro gb386 hg w29 hbox hb
                              have BK386 := Aside0.mk (hbox)
                              have GW386 := ge HB hg
                              have GE386 := ge HB hg
                              have NB374_386 := nl BK374 hg
                              have NB386_374 := ng NB374_386
                              have NB378_386 := nl BK378 hg
                              have NB386_378 := ng NB378_386
                              replace BK374 := bb BK374 hb
                              replace BK378 := bb BK378 hb
                              replace HB := bs HB hb
                              clear hb hbox hg
                              refine hK.out _ _ ⟨((HB.out.cell (World.block_lt_of_cell? w _ hw379_0)).trans hw379_0), ((HB.out.cell (World.block_lt_of_cell? w _ hw379_1)).trans hw379_1), ((HB.out.cell (World.block_lt_of_cell? w _ hw380_0)).trans hw380_0), ((HB.out.cell (World.block_lt_of_cell? w _ hw380_1)).trans hw380_1)⟩ (fun hHeld => ?_)
                              clear hK K
                              refine norm_ (a' := ?_) ?_ ?_
                              rotate_left
                              · show Act.put _ (some 9) _ = _
                                simp only [Act.put, List.setIfInBounds_toArray, List.set_cons_zero, List.set_cons_succ, i64_w, i32_w]
                                rfl
                              refine one_ (i := 12) (N := some 73) #[true, true, true, true, true, true, true, true, true, true, true, true, true, false, false, false, true, false, false] rfl rfl (one_of HT_.out (by kernel_rfl)) (by decide) (fun K hK => ?_)
                              refine goes_ Try.func46 (by kernel_rfl) rfl #[.agg #[.int .i64 t381, .int .u64 t382], .int .i64 a1] (by rfl) rfl rfl zm ?_
                              with_reducible refine (corebankref01_Scale.calls k3 t381 t382 a1 t383 t384 t385 _ A25.out).mono ?_
                              rintro e w30 ⟨rfl, hb⟩
                              refine ⟨_, rfl, ?_⟩
                              replace BK374 := bb BK374 hb
                              replace BK378 := bb BK378 hb
                              replace BK386 := bb BK386 hb
                              replace HB := bs HB hb
                              (try clear hb)
                              (try clear hb2)
                              (try clear hk)
                              (try clear hi)
                              refine hK.out _ _ ⟨((HB.out.cell (World.block_lt_of_cell? w _ hw379_0)).trans hw379_0), ((HB.out.cell (World.block_lt_of_cell? w _ hw379_1)).trans hw379_1), ((HB.out.cell (World.block_lt_of_cell? w _ hw380_0)).trans hw380_0), ((HB.out.cell (World.block_lt_of_cell? w _ hw380_1)).trans hw380_1)⟩ (fun hHeld => ?_)
                              clear hK K
                              refine norm_ (a' := ?_) ?_ ?_
                              rotate_left
                              · show Act.put _ (some 73) _ = _
                                simp only [Act.put, List.setIfInBounds_toArray, List.set_cons_zero, List.set_cons_succ, i64_w, i32_w]
                                rfl
                              refine pz (i := 13) (N := some 60) #[true, true, true, true, true, true, true, true, true, true, true, true, true, true, false, false, true, false, false] rfl rfl (any_of HT_.out (by kernel_rfl)) (fun _ _ _ h => h) ?_
                              refine pz (i := 14) (N := some 74) #[true, true, true, true, true, true, true, true, true, true, true, true, true, true, true, false, true, false, false] rfl rfl (any_of HT_.out (by kernel_rfl)) (fun _ _ _ h => h) ?_
                              refine pz (i := 15) (N := some 75) #[true, true, true, true, true, true, true, true, true, true, true, true, true, true, true, true, true, false, false] rfl rfl (any_of HT_.out (by kernel_rfl)) (fun _ _ _ h => h) ?_
                              exact norm_ (by simp only [putAll, Act.put, List.setIfInBounds_toArray, List.set_cons_zero, List.set_cons_succ]) (hCont (gb386) _ ⟨hHeld, (bq BK374), (bq BK378), (bq BK386), GW386.out, GE386.out, NB374_386.out, NB386_374.out, NB378_386.out, NB386_378.out, (hq HB)⟩)
                          · skip
                            refine box_step ?hg (N := 9) ?hd (cs := #[.int .i64 0, .int .u64 0]) (t := 35) ?hr ?_; (case hd => rfl); (case hg => rfl); (case hr => first | (go_simp; done) | (go_simp; rfl))
                            intro gb386 hg w28 hbox hb
                            have BK386 := Aside0.mk (hbox)
                            have GW386 := ge HB hg
                            have GE386 := ge HB hg
                            have NB374_386 := nl BK374 hg
                            have NB386_374 := ng NB374_386
                            have NB378_386 := nl BK378 hg
                            have NB386_378 := ng NB378_386
                            replace BK374 := bb BK374 hb
                            replace BK378 := bb BK378 hb
                            replace HB := bs HB hb
                            clear hb hbox hg
                            refine hK.out _ _ ⟨((HB.out.cell (World.block_lt_of_cell? w _ hw379_0)).trans hw379_0), ((HB.out.cell (World.block_lt_of_cell? w _ hw379_1)).trans hw379_1), ((HB.out.cell (World.block_lt_of_cell? w _ hw380_0)).trans hw380_0), ((HB.out.cell (World.block_lt_of_cell? w _ hw380_1)).trans hw380_1)⟩ (fun hHeld => ?_)
                            clear hK K
                            refine norm_ (a' := ?_) ?_ ?_
                            rotate_left
                            · show Act.put _ (some 9) _ = _
                              simp only [Act.put, List.setIfInBounds_toArray, List.set_cons_zero, List.set_cons_succ, i64_w, i32_w]
                              rfl
                            refine one_ (i := 10) (N := some 71) #[true, true, true, true, true, true, true, true, true, true, true, true, false, false, false, false, true, false, false] rfl rfl (one_of HT_.out (by kernel_rfl)) (by decide) (fun K hK => ?_)
                            refine goes_ Try.func47 (by kernel_rfl) rfl #[.int .i64 ((rd_T43 l0 x8_3).f0), .int .i64 ((rd_T43 l0 x8_3).f1)] (by rfl) rfl rfl zm ?_
                            with_reducible refine (corebankref01_Mul.calls k3 ((rd_T43 l0 x8_3).f0) ((rd_T43 l0 x8_3).f1) t381 t382 _ A24.out).mono ?_
                            rintro e w29 ⟨rfl, hb⟩
                            refine ⟨_, rfl, ?_⟩
                            replace BK374 := bb BK374 hb
                            replace BK378 := bb BK378 hb
                            replace BK386 := bb BK386 hb
                            replace HB := bs HB hb
                            (try clear hb)
                            (try clear hb2)
                            (try clear hk)
                            (try clear hi)
                            refine hK.out _ _ ⟨((HB.out.cell (World.block_lt_of_cell? w _ hw379_0)).trans hw379_0), ((HB.out.cell (World.block_lt_of_cell? w _ hw379_1)).trans hw379_1), ((HB.out.cell (World.block_lt_of_cell? w _ hw380_0)).trans hw380_0), ((HB.out.cell (World.block_lt_of_cell? w _ hw380_1)).trans hw380_1)⟩ (fun hHeld => ?_)
                            clear hK K
                            refine norm_ (a' := ?_) ?_ ?_
                            rotate_left
                            · show Act.put _ (some 71) _ = _
                              simp only [Act.put, List.setIfInBounds_toArray, List.set_cons_zero, List.set_cons_succ, i64_w, i32_w]
                              rfl
                            refine one_ (i := 12) (N := some 73) #[true, true, true, true, true, true, true, true, true, true, true, true, true, false, false, false, true, false, false] rfl rfl (one_of HT_.out (by kernel_rfl)) (by decide) (fun K hK => ?_)
                            refine goes_ Try.func46 (by kernel_rfl) rfl #[.agg #[.int .i64 t381, .int .u64 t382], .int .i64 a1] (by rfl) rfl rfl zm ?_
                            with_reducible refine (corebankref01_Scale.calls k3 t381 t382 a1 t383 t384 t385 _ A25.out).mono ?_
                            rintro e w30 ⟨rfl, hb⟩
                            refine ⟨_, rfl, ?_⟩
                            replace BK374 := bb BK374 hb
                            replace BK378 := bb BK378 hb
                            replace BK386 := bb BK386 hb
                            replace HB := bs HB hb
                            (try clear hb)
                            (try clear hb2)
                            (try clear hk)
                            (try clear hi)
                            refine hK.out _ _ ⟨((HB.out.cell (World.block_lt_of_cell? w _ hw379_0)).trans hw379_0), ((HB.out.cell (World.block_lt_of_cell? w _ hw379_1)).trans hw379_1), ((HB.out.cell (World.block_lt_of_cell? w _ hw380_0)).trans hw380_0), ((HB.out.cell (World.block_lt_of_cell? w _ hw380_1)).trans hw380_1)⟩ (fun hHeld => ?_)
                            clear hK K
                            refine norm_ (a' := ?_) ?_ ?_
                            rotate_left
                            · show Act.put _ (some 73) _ = _
                              simp only [Act.put, List.setIfInBounds_toArray, List.set_cons_zero, List.set_cons_succ, i64_w, i32_w]
                              rfl
                            refine pz (i := 13) (N := some 60) #[true, true, true, true, true, true, true, true, true, true, true, true, true, true, false, false, true, false, false] rfl rfl (any_of HT_.out (by kernel_rfl)) (fun _ _ _ h => h) ?_
                            refine pz (i := 14) (N := some 74) #[true, true, true, true, true, true, true, true, true, true, true, true, true, true, true, false, true, false, false] rfl rfl (any_of HT_.out (by kernel_rfl)) (fun _ _ _ h => h) ?_
                            refine pz (i := 15) (N := some 75) #[true, true, true, true, true, true, true, true, true, true, true, true, true, true, true, true, true, false, false] rfl rfl (any_of HT_.out (by kernel_rfl)) (fun _ _ _ h => h) ?_
                            exact norm_ (by simp only [putAll, Act.put, List.setIfInBounds_toArray, List.set_cons_zero, List.set_cons_succ]) (hCont (gb386) _ ⟨hHeld, (bq BK374), (bq BK378), (bq BK386), GW386.out, GE386.out, NB374_386.out, NB386_374.out, NB378_386.out, NB386_378.out, (hq HB)⟩)
                        rintro gb386 w31 ⟨hS_, h0_, h1_, h2_, h3_, h4_, h5_, h6_, h7_, h8_, h9_⟩
                        have BK386 : Aside0 (w31.heap[gb386]? = some (.cells #[.int .i64 0, .int .u64 0] 35 (0, 0))) := ⟨h2_⟩
                        have GW386 : Aside0 (w.heap.size ≤ gb386) := ⟨h3_⟩
                        have GE386 : Aside0 (w.heap.size ≤ gb386) := ⟨h4_⟩
                        have NB374_386 : Aside0 (gb374 ≠ gb386) := ⟨h5_⟩
                        have NB386_374 : Aside0 (gb386 ≠ gb374) := ⟨h6_⟩
                        have NB378_386 : Aside0 (gb378 ≠ gb386) := ⟨h7_⟩
                        have NB386_378 : Aside0 (gb386 ≠ gb378) := ⟨h8_⟩
                        replace BK374 : Aside0 (w31.heap[gb374]? = some (.cells #[.int .i64 x375000_1, .int .u64 x375001_1] 35 (0, 0))) := ⟨h0_⟩
                        replace BK378 : Aside0 (w31.heap[gb378]? = some (.cells #[.int .i64 x379000_3, .int .u64 x379001_3] 35 (0, 0))) := ⟨h1_⟩
                        replace HB : Aside0 (Below w.heap.size w w31) := ⟨h9_⟩
                        clear h0_ h1_ h2_ h3_ h4_ h5_ h6_ h7_ h8_ h9_
                        have hHeld : w31.cell? (ad379.add ((x8_3).toNat * 2)) = some (.int .i64 ((rd_T43 l0 x8_3).f0)) ∧ w31.cell? ⟨(ad379.add ((x8_3).toNat * 2)).block, (ad379.add ((x8_3).toNat * 2)).off + 1, none⟩ = some (.int .i64 ((rd_T43 l0 x8_3).f1)) ∧ w31.cell? (ad379.add ((x8_3).toNat * 2)) = some (.int .i64 ((rd_T43 l0 x8_3).f0)) ∧ w31.cell? ⟨(ad379.add ((x8_3).toNat * 2)).block, (ad379.add ((x8_3).toNat * 2)).off + 1, none⟩ = some (.int .i64 ((rd_T43 l0 x8_3).f1)) := hS_
                        refine norm_ (a' := ?_) ?_ ?_
                        rotate_left
                        · simp only [putAll, Act.put, List.setIfInBounds_toArray, List.set_cons_zero, List.set_cons_succ]
                          rfl
                        refine one_ (i := 17) (N := none) #[true, true, true, true, true, true, true, true, true, true, true, true, true, true, true, true, true, true, false] rfl rfl (one_of HT_.out (by kernel_rfl)) (by decide) (fun K hK => ?_)
                        have hs32 : w31.cell? ⟨gb386, 0, none⟩ = some (.int .i64 0) := (blk_cell BK386.out 0).trans rfl
                        have hfs32 := blk_frozen BK386.out 0
                        have hns32_0 := NB374_386.out
                        have hns32_1 := NB378_386.out
                        have hms32_0 := NB386_374.out
                        have hms32_1 := NB386_378.out
                        have hs33 : w31.cell? ⟨gb386, 1, none⟩ = some (.int .u64 0) := (blk_cell BK386.out 1).trans rfl
                        have hfs33 := blk_frozen BK386.out 1
                        have hns33_0 := NB374_386.out
                        have hns33_1 := NB378_386.out
                        have hms33_0 := NB386_374.out
                        have hms33_1 := NB386_378.out
                        refine skip_ (w1 := ?_) (by rfl) rfl ?_ ?_
                        rotate_left
                        · go_simp
                          rfl
                        refine hK.out _ _ ⟨((cell_far (p := ⟨gb386, _, none⟩) (by first | exact Nat.ne_of_lt (Nat.lt_of_lt_of_le (by have := World.block_lt_of_cell? _ _ hw379_0; first | rwa [add_block] at this | exact this) GW386.out) | (rw [add_block]; exact Nat.ne_of_lt (Nat.lt_of_lt_of_le (by have := World.block_lt_of_cell? _ _ hw379_0; first | rwa [add_block] at this | exact this) GW386.out)) | (show (Addr.add _ _).block ≠ _; rw [add_block]; exact Nat.ne_of_lt (Nat.lt_of_lt_of_le (by have := World.block_lt_of_cell? _ _ hw379_0; first | rwa [add_block] at this | exact this) GW386.out)) | (dsimp only; exact Nat.ne_of_lt (Nat.lt_of_lt_of_le (by have := World.block_lt_of_cell? _ _ hw379_0; first | rwa [add_block] at this | exact this) GW386.out))) _).trans (((cell_far (p := ⟨gb386, _, none⟩) (by first | exact Nat.ne_of_lt (Nat.lt_of_lt_of_le (by have := World.block_lt_of_cell? _ _ hw379_0; first | rwa [add_block] at this | exact this) GW386.out) | (rw [add_block]; exact Nat.ne_of_lt (Nat.lt_of_lt_of_le (by have := World.block_lt_of_cell? _ _ hw379_0; first | rwa [add_block] at this | exact this) GW386.out)) | (show (Addr.add _ _).block ≠ _; rw [add_block]; exact Nat.ne_of_lt (Nat.lt_of_lt_of_le (by have := World.block_lt_of_cell? _ _ hw379_0; first | rwa [add_block] at this | exact this) GW386.out)) | (dsimp only; exact Nat.ne_of_lt (Nat.lt_of_lt_of_le (by have := World.block_lt_of_cell? _ _ hw379_0; first | rwa [add_block] at this | exact this) GW386.out))) _).trans (hHeld.1)))), ((cell_far (p := ⟨gb386, _, none⟩) (by first | exact Nat.ne_of_lt (Nat.lt_of_lt_of_le (by have := World.block_lt_of_cell? _ _ hw379_1; first | rwa [add_block] at this | exact this) GW386.out) | (rw [add_block]; exact Nat.ne_of_lt (Nat.lt_of_lt_of_le (by have := World.block_lt_of_cell? _ _ hw379_1; first | rwa [add_block] at this | exact this) GW386.out)) | (show (Addr.add _ _).block ≠ _; rw [add_block]; exact Nat.ne_of_lt (Nat.lt_of_lt_of_le (by have := World.block_lt_of_cell? _ _ hw379_1; first | rwa [add_block] at this | exact this) GW386.out)) | (dsimp only; exact Nat.ne_of_lt (Nat.lt_of_lt_of_le (by have := World.block_lt_of_cell? _ _ hw379_1; first | rwa [add_block] at this | exact this) GW386.out))) _).trans (((cell_far (p := ⟨gb386, _, none⟩) (by first | exact Nat.ne_of_lt (Nat.lt_of_lt_of_le (by have := World.block_lt_of_cell? _ _ hw379_1; first | rwa [add_block] at this | exact this) GW386.out) | (rw [add_block]; exact Nat.ne_of_lt (Nat.lt_of_lt_of_le (by have := World.block_lt_of_cell? _ _ hw379_1; first | rwa [add_block] at this | exact this) GW386.out)) | (show (Addr.add _ _).block ≠ _; rw [add_block]; exact Nat.ne_of_lt (Nat.lt_of_lt_of_le (by have := World.block_lt_of_cell? _ _ hw379_1; first | rwa [add_block] at this | exact this) GW386.out)) | (dsimp only; exact Nat.ne_of_lt (Nat.lt_of_lt_of_le (by have := World.block_lt_of_cell? _ _ hw379_1; first | rwa [add_block] at this | exact this) GW386.out))) _).trans (hHeld.2.1)))), ((cell_far (p := ⟨gb386, _, none⟩) (by first | exact Nat.ne_of_lt (Nat.lt_of_lt_of_le (by have := World.block_lt_of_cell? _ _ hw380_0; first | rwa [add_block] at this | exact this) GW386.out) | (rw [add_block]; exact Nat.ne_of_lt (Nat.lt_of_lt_of_le (by have := World.block_lt_of_cell? _ _ hw380_0; first | rwa [add_block] at this | exact this) GW386.out)) | (show (Addr.add _ _).block ≠ _; rw [add_block]; exact Nat.ne_of_lt (Nat.lt_of_lt_of_le (by have := World.block_lt_of_cell? _ _ hw380_0; first | rwa [add_block] at this | exact this) GW386.out)) | (dsimp only; exact Nat.ne_of_lt (Nat.lt_of_lt_of_le (by have := World.block_lt_of_cell? _ _ hw380_0; first | rwa [add_block] at this | exact this) GW386.out))) _).trans (((cell_far (p := ⟨gb386, _, none⟩) (by first | exact Nat.ne_of_lt (Nat.lt_of_lt_of_le (by have := World.block_lt_of_cell? _ _ hw380_0; first | rwa [add_block] at this | exact this) GW386.out) | (rw [add_block]; exact Nat.ne_of_lt (Nat.lt_of_lt_of_le (by have := World.block_lt_of_cell? _ _ hw380_0; first | rwa [add_block] at this | exact this) GW386.out)) | (show (Addr.add _ _).block ≠ _; rw [add_block]; exact Nat.ne_of_lt (Nat.lt_of_lt_of_le (by have := World.block_lt_of_cell? _ _ hw380_0; first | rwa [add_block] at this | exact this) GW386.out)) | (dsimp only; exact Nat.ne_of_lt (Nat.lt_of_lt_of_le (by have := World.block_lt_of_cell? _ _ hw380_0; first | rwa [add_block] at this | exact this) GW386.out))) _).trans (hHeld.2.2.1)))), ((cell_far (p := ⟨gb386, _, none⟩) (by first | exact Nat.ne_of_lt (Nat.lt_of_lt_of_le (by have := World.block_lt_of_cell? _ _ hw380_1; first | rwa [add_block] at this | exact this) GW386.out) | (rw [add_block]; exact Nat.ne_of_lt (Nat.lt_of_lt_of_le (by have := World.block_lt_of_cell? _ _ hw380_1; first | rwa [add_block] at this | exact this) GW386.out)) | (show (Addr.add _ _).block ≠ _; rw [add_block]; exact Nat.ne_of_lt (Nat.lt_of_lt_of_le (by have := World.block_lt_of_cell? _ _ hw380_1; first | rwa [add_block] at this | exact this) GW386.out)) | (dsimp only; exact Nat.ne_of_lt (Nat.lt_of_lt_of_le (by have := World.block_lt_of_cell? _ _ hw380_1; first | rwa [add_block] at this | exact this) GW386.out))) _).trans (((cell_far (p := ⟨gb386, _, none⟩) (by first | exact Nat.ne_of_lt (Nat.lt_of_lt_of_le (by have := World.block_lt_of_cell? _ _ hw380_1; first | rwa [add_block] at this | exact this) GW386.out) | (rw [add_block]; exact Nat.ne_of_lt (Nat.lt_of_lt_of_le (by have := World.block_lt_of_cell? _ _ hw380_1; first | rwa [add_block] at this | exact this) GW386.out)) | (show (Addr.add _ _).block ≠ _; rw [add_block]; exact Nat.ne_of_lt (Nat.lt_of_lt_of_le (by have := World.block_lt_of_cell? _ _ hw380_1; first | rwa [add_block] at this | exact this) GW386.out)) | (dsimp only; exact Nat.ne_of_lt (Nat.lt_of_lt_of_le (by have := World.block_lt_of_cell? _ _ hw380_1; first | rwa [add_block] at this | exact this) GW386.out))) _).trans (hHeld.2.2.2))))⟩ (fun hHeld => ?_)
                        clear hK K
                        refine pz (i := 18) (N := some 10) #[true, true, true, true, true, true, true, true, true, true, true, true, true, true, true, true, true, true, true] rfl rfl (any_of HT_.out (by kernel_rfl)) (fun _ _ _ h => h) ?_
                        refine done_ (done_of HT_.out (by kernel_rfl)) ?_
                        have hnb34 := NB378_374.out
                        have hnc34 := NB374_378.out
                        have hnb35 := NB378_386.out
                        have hnc35 := NB386_378.out
                        obtain ⟨hcz36_0, hcz36_1, hfz36_0, hfz36_1⟩ := cz2 BK378
                        have hnb37 := NB386_374.out
                        have hnc37 := NB374_386.out
                        obtain ⟨hcz38_0, hcz38_1, hfz38_0, hfz38_1⟩ := cz2 BK386
                        try go_wp2_with (first | ((with_reducible refine gate_callee (f := 28) rfl ?_); refine goesL_ (some 79) rfl rfl Try.func28 (by kernel_rfl) rfl #[.agg #[.int .i64 x379000_3, .int .u64 x379001_3], .agg #[.int .i64 t383, .int .u64 t384]] rfl zm ?_; (with_reducible refine (corebankref01_Add.calls x379000_3 x379001_3 t383 t384 t387 t388 t389 _ A26.out).mono ?_); rintro e w39 ⟨rfl, hb⟩; refine ⟨_, rfl, ?_⟩; replace BK374 := bb BK374 hb; replace BK378 := bb BK378 hb; replace BK386 := bpb BK386 hb #[.int .i64 t383, .int .u64 t384]; replace HB := bs HB hb; (try clear hb); (try clear hb2); (try clear hk); (try clear hi)) | ((with_reducible refine gate_dst (N := 11) rfl ?_); refine box_event ?hg (N := 11) ?hd (cs := #[.int .i64 0, .int .u64 0]) (t := 35) ?hr ?_; (case hd => rfl); (case hg => rfl); (case hr => first | (go_simp; done) | (go_simp; rfl)); intro gb390 hg w40 hbox hb; have BK390 := Aside0.mk (hbox); have GW390 := ge HB hg; have GE390 := ge HB hg; have NB374_390 := nl BK374 hg; have NB390_374 := ng NB374_390; have NB378_390 := nl BK378 hg; have NB390_378 := ng NB378_390; have NB386_390 := nl BK386 hg; have NB390_386 := ng NB386_390; replace BK374 := bb BK374 hb; replace BK378 := bb BK378 hb; replace BK386 := bb BK386 hb; replace HB := bs HB hb; clear hb hbox hg; have hnb41 := NB390_374.out; have hnc41 := NB374_390.out; have hnb42 := NB390_378.out; have hnc42 := NB378_390.out; have hnb43 := NB390_386.out; have hnc43 := NB386_390.out; obtain ⟨hcz44_0, hcz44_1, hfz44_0, hfz44_1⟩ := cz2 BK390; obtain ⟨hcz45_0, hcz45_1, hfz45_0, hfz45_1⟩ := cz2 BK378))
                        go_roundg k3
                        case measure => have := HK1.out; have := HJ14.out; have := HK3.out; omega
                        case rel => exact ⟨(wrap64 (x8_3 + 1)), (t387), (t388), (by first | rfl | (simp; done) | (simp [*]; done)), H', ⟨by have := HK1.out; have := HJ14.out; have := HK3.out; omega⟩, ⟨bq BK374⟩, ⟨bp BK378⟩, ⟨hq HB⟩⟩
                      · rw [if_neg c23] at H
                        exact absurd H (by simp)
                    · rw [if_neg c22] at H
                      have c22b0 : decide (x8_3 < (l0.length : Int)) = false := decide_eq_false c22
                      clear c22
                      simp only [Option.some.injEq, Prod.mk.injEq] at H
                      obtain ⟨rfl, rfl, rfl⟩ := H
                      have hnb46 := NB378_374.out
                      have hnc46 := NB374_378.out
                      obtain ⟨hcz47_0, hcz47_1, hfz47_0, hfz47_1⟩ := cz2 BK378
                      obtain ⟨hcz48_0, hcz48_1, hfz48_0, hfz48_1⟩ := cz2 BK374
                      go_wp2
                      refine bodyPost_ret (results_ct rfl _ _ gb374 35 #[.int .i64 x379000_3, .int .u64 x379001_3] (0, 0) _ rfl (bp BK374) Try.underlying35 rfl (by kernel_rfl)) rfl ?_
                      exact ⟨by first | rfl | (simp [errW_none, errW_some] <;> rfl) | (simp [*, errW_none, errW_some] <;> rfl), hq HB⟩

end Go.Proofs.Ytlmabdiodopidaa.P
end
section
set_option linter.unusedVariables false
set_option linter.unusedSimpArgs false
namespace Go.Proofs.Ytlmabdiodopidaa.G
set_option maxRecDepth 100000
open Go.RowKit Go.Proofs.YtlmabdiodopidaaW.PrintWords Go.Proofs.YtlmabdiodopidaaW.PrintLast Go.Proofs.YtlmabdiodopidaaW.PrintMore Go.Proofs.Ytlmabdiodopidaa.P
theorem rvd_f (day : Int) : corebankref04_Valid.f day = some (vd day) := by
  unfold corebankref04_Valid.f vd
  by_cases h : 0 ≤ day
  · rw [if_pos h]; simp [h]
  · rw [if_neg h]; simp [h]
/-- the reference's interest of a balance on a day -/
def RGrIs (x : Intr) (bal day g1 g2 : Int) : Prop := ∃ k sl wt e, corebankref14_Slices.f k x.tiers x.marg bal = some sl ∧ corebankref06_Weight.f k x.basis day = some wt ∧ corebankref14_Grains.f k sl wt = some (g1, g2, e)
end Go.Proofs.Ytlmabdiodopidaa.G
end
section
set_option linter.unusedVariables false
set_option linter.unusedSimpArgs false
namespace Go.Proofs.Ytlmabdiodopidaa.G
open Go.RowKit Go.Proofs.Ytlmabdiodopidaa.P Go.Proofs.YtlmabdiodopidaaW.PrintWords Go.Proofs.YtlmabdiodopidaaW.PrintMore
/-- the days of a year -/
def yl (y : Int) : Int := if leapY y = true then 366 else 365
/-- the first day of a year -/
def bg (y : Int) : Int := 365 * (y - 2000) + (y - 2000 + 3) / 4 - (if y > 2100 then 1 else 0)
/-- the days of a month -/
def ml (y m : Int) : Int := if m = 2 then (if leapY y = true then 29 else 28) else if m = 4 ∨ m = 6 ∨ m = 9 ∨ m = 11 then 30 else 31
theorem begin_eq {y : Int} (h1 : 2000 ≤ y) (h2 : y ≤ 2300) : date_begin.f y = some (bg y) := by
  unfold date_begin.f bg
  rw [w64 (x := y - 2000) (by omega) (by omega), w64 (x := y - 2000 + 3) (by omega) (by omega), Int.tdiv_eq_ediv_of_nonneg (by omega), w64 (x := (y - 2000 + 3) / 4) (by omega) (by omega), w64 (x := 365 * (y - 2000)) (by omega) (by omega), w64 (x := (y - 2000 + 3) / 4 - 1) (by omega) (by omega)]
  split
  · rw [w64 (by omega) (by omega)]
    congr 1
    omega
  · rw [w64 (by omega) (by omega)]
    congr 1
    omega
theorem bg_succ {y : Int} (h1 : 2000 ≤ y) (h2 : y < 2200) : bg (y + 1) = bg y + yl y := by
  have key : ∀ n : Fin 200, bg (2000 + (n.val : Int) + 1) = bg (2000 + (n.val : Int)) + yl (2000 + (n.val : Int)) := by decide +kernel
  have h := key ⟨(y - 2000).toNat, by omega⟩
  have e : 2000 + (((y - 2000).toNat : Nat) : Int) = y := by omega
  simp only [e] at h
  exact h
theorem bg_mono {a b : Int} (h : a ≤ b) : bg a ≤ bg b := by
  unfold bg
  split <;> split <;> omega
theorem bg_bd {a : Int} (h1 : 2000 ≤ a) (h2 : a ≤ 2300) : 0 ≤ bg a ∧ bg a ≤ 366 * (a - 2000) := by
  unfold bg
  split <;> omega
theorem ref_Leap_eq (y : Int) : corebankref04_Leap.f y = some (leapY y) := by
  unfold corebankref04_Leap.f leapY
  by_cases h4 : Int.tmod y 4 = 0
  · rw [if_pos h4, h4]
    by_cases h100 : Int.tmod y 100 = 0
    · rw [if_pos h100, h100]
      simp
    · rw [if_neg h100]
      simp [h100]
  · rw [if_neg h4]
    simp [h4]
theorem ref_yl_eq (y : Int) : corebankref04_yearLength.f y = some (yl y) := by
  unfold corebankref04_yearLength.f yl
  rw [ref_Leap_eq]
  simp only [Option.bind_some]
  split <;> rfl
theorem month_cases {m : Int} (h1 : 1 ≤ m) (h2 : m ≤ 12) : m = 1 ∨ m = 2 ∨ m = 3 ∨ m = 4 ∨ m = 5 ∨ m = 6 ∨ m = 7 ∨ m = 8 ∨ m = 9 ∨ m = 10 ∨ m = 11 ∨ m = 12 := by omega
theorem length_eq {y m : Int} (h1 : 1 ≤ m) (h2 : m ≤ 12) : date_length.f y m = some (ml y m) := by
  unfold date_length.f ml
  rcases month_cases h1 h2 with rfl | rfl | rfl | rfl | rfl | rfl | rfl | rfl | rfl | rfl | rfl | rfl
  all_goals
    cases leapY y <;> rfl
theorem ref_length_eq {k : Nat} {y m : Int} (hk : 2 ≤ k) (h1 : 1 ≤ m) (h2 : m ≤ 12) : corebankref04_Length.f k y m = some (ml y m) := by
  obtain ⟨k, rfl⟩ : ∃ j, k = j + 2 := ⟨k - 2, by omega⟩
  unfold corebankref04_Length.f ml
  rcases month_cases h1 h2 with rfl | rfl | rfl | rfl | rfl | rfl | rfl | rfl | rfl | rfl | rfl | rfl
  all_goals
    simp only [corebankref04_Length.j0, corebankref04_Length.j1, ref_Leap_eq, Option.bind_some]
    cases leapY y <;> rfl
theorem ml_bd (y m : Int) : 28 ≤ ml y m ∧ ml y m ≤ 31 := by
  unfold ml
  split
  · split <;> omega
  · split <;> omega
/-- the days of the last j months of a year -/
def rs (y : Int) : Nat → Int
  | 0 => 0
  | j + 1 => ml y (12 - j) + rs y j
theorem rs_all (y : Int) : rs y 12 = yl y := by
  simp only [rs, ml, yl]
  cases leapY y <;> rfl
theorem months (y : Int) : ∀ (j : Nat) (d : Int), j ≤ 12 → 0 ≤ d → d < rs y j → d < 1000 → ∃ r : Int × Int × Int, ∀ k, j + 3 ≤ k → date_Civil.l1 k d y (13 - j) = some r ∧ corebankref04_Civil.l1 k d y (13 - j) = some r
  | 0, d, _, h0, h1, _ => by
    unfold rs at h1
    omega
  | j + 1, d, hj, h0, h1, hd => by
    have e : (13 - ((j + 1 : Nat) : Int)) = 12 - j := by omega
    have b := ml_bd y (12 - j)
    unfold rs at h1
    rw [e]
    by_cases hc : d ≥ ml y (12 - j)
    · obtain ⟨r, hr⟩ := months y j (d - ml y (12 - j)) (by omega) (by omega) (by omega) (by omega)
      refine ⟨r, fun k hk => ?_⟩
      obtain ⟨k, rfl⟩ : ∃ i, k = i + 1 := ⟨k - 1, by omega⟩
      have h3 := hr k (by omega)
      have e2 : (12 - (j : Int)) + 1 = 13 - j := by omega
      simp only [date_Civil.l1, corebankref04_Civil.l1]
      rw [length_eq (by omega) (by omega), ref_length_eq (by omega) (by omega) (by omega)]
      simp only [Option.bind_some]
      rw [if_pos hc, if_pos hc, w64 (x := d - ml y (12 - j)) (by omega) (by omega), w64 (x := 12 - (j : Int) + 1) (by omega) (by omega), e2]
      exact h3
    · refine ⟨(y, 12 - j, wrap64 (d + 1)), fun k hk => ?_⟩
      obtain ⟨k, rfl⟩ : ∃ i, k = i + 1 := ⟨k - 1, by omega⟩
      simp only [date_Civil.l1, corebankref04_Civil.l1]
      rw [length_eq (by omega) (by omega), ref_length_eq (by omega) (by omega) (by omega)]
      simp only [Option.bind_some]
      rw [if_neg hc, if_neg hc]
      exact ⟨rfl, rfl⟩
theorem years_p {D Y : Int} (hY : 2000 ≤ Y ∧ Y ≤ 2199) (h1 : bg Y ≤ D) (h2 : D < bg (Y + 1)) {r : Int × Int × Int} (hr : ∀ k, 15 ≤ k → date_Civil.l1 k (D - bg Y) Y 1 = some r) : ∀ (n : Nat) (y : Int), 2000 ≤ y → Y - y = n → ∀ k, n + 16 ≤ k → date_Civil.l0 k D y = some r
  | 0, y, hy, hn, k, hk => by
    obtain rfl : y = Y := by omega
    obtain ⟨k, rfl⟩ : ∃ i, k = i + 1 := ⟨k - 1, by omega⟩
    have b := bg_bd (a := y + 1) (by omega) (by omega)
    have b0 := bg_bd (a := y) (by omega) (by omega)
    simp only [date_Civil.l0]
    rw [w64 (x := y + 1) (by omega) (by omega), begin_eq (by omega) (by omega), begin_eq (by omega) (by omega)]
    simp only [Option.bind_some]
    rw [if_neg (by omega), w64 (by omega) (by omega)]
    exact hr k (by omega)
  | n + 1, y, hy, hn, k, hk => by
    obtain ⟨k, rfl⟩ : ∃ i, k = i + 1 := ⟨k - 1, by omega⟩
    have b := bg_mono (a := y + 1) (b := Y) (by omega)
    simp only [date_Civil.l0]
    rw [w64 (x := y + 1) (by omega) (by omega), begin_eq (by omega) (by omega)]
    simp only [Option.bind_some]
    rw [if_pos (by omega)]
    exact years_p hY h1 h2 hr n (y + 1) (by omega) (by omega) k (by omega)
theorem years_r {D Y : Int} (hY : 2000 ≤ Y ∧ Y ≤ 2199) (h1 : bg Y ≤ D) (h2 : D < bg (Y + 1)) {r : Int × Int × Int} (hr : ∀ k, 15 ≤ k → corebankref04_Civil.l1 k (D - bg Y) Y 1 = some r) : ∀ (n : Nat) (y : Int), 2000 ≤ y → Y - y = n → ∀ k, n + 16 ≤ k → corebankref04_Civil.l0 k (D - bg y) y 1 = some r
  | 0, y, hy, hn, k, hk => by
    obtain rfl : y = Y := by omega
    obtain ⟨k, rfl⟩ : ∃ i, k = i + 1 := ⟨k - 1, by omega⟩
    have b := bg_succ (y := y) (by omega) (by omega)
    simp only [corebankref04_Civil.l0]
    rw [ref_yl_eq]
    simp only [Option.bind_some]
    rw [if_neg (by omega)]
    exact hr k (by omega)
  | n + 1, y, hy, hn, k, hk => by
    obtain ⟨k, rfl⟩ : ∃ i, k = i + 1 := ⟨k - 1, by omega⟩
    have b := bg_mono (a := y + 1) (b := Y) (by omega)
    have b1 := bg_succ (y := y) (by omega) (by omega)
    have b2 := bg_bd (a := y + 1) (by omega) (by omega)
    have b3 := bg_bd (a := Y + 1) (by omega) (by omega)
    have e : D - bg y - yl y = D - bg (y + 1) := by omega
    simp only [corebankref04_Civil.l0]
    rw [ref_yl_eq]
    simp only [Option.bind_some]
    rw [if_pos (by omega), w64 (x := D - bg y - yl y) (by omega) (by omega), w64 (x := y + 1) (by omega) (by omega), e]
    exact years_r hY h1 h2 hr n (y + 1) (by omega) (by omega) k (by omega)
theorem ex_year {D : Int} (h0 : 0 ≤ D) : ∀ n : Nat, D < bg (2000 + n) → ∃ Y : Int, 2000 ≤ Y ∧ Y < 2000 + n ∧ bg Y ≤ D ∧ D < bg (Y + 1)
  | 0, h => by
    have : bg (2000 + ((0 : Nat) : Int)) = 0 := by decide
    omega
  | n + 1, h => by
    by_cases hc : D < bg (2000 + n)
    · obtain ⟨Y, a, b, c, d⟩ := ex_year h0 n hc
      exact ⟨Y, a, by omega, c, d⟩
    · refine ⟨2000 + n, by omega, by omega, by omega, ?_⟩
      have e : (2000 + (n : Int)) + 1 = 2000 + ((n + 1 : Nat) : Int) := by omega
      rw [e]
      exact h
theorem civil_both {D : Int} (hv : vd D = true) : ∃ r : Int × Int × Int, ∀ k, 300 ≤ k → date_Civil.f k D = some r ∧ corebankref04_Civil.f k D = some r := by
  obtain ⟨h0, h1⟩ := vd_bd hv
  have e0 : bg (2000 + ((200 : Nat) : Int)) = 73049 := by decide
  obtain ⟨Y, y1, y2, y3, y4⟩ := ex_year h0 200 (by omega)
  have b0 := bg_bd (a := Y) (by omega) (by omega)
  have b1 := bg_bd (a := Y + 1) (by omega) (by omega)
  have bs := bg_succ (y := Y) (by omega) (by omega)
  have hyl : yl Y ≤ 366 := by unfold yl; split <;> omega
  obtain ⟨r, hr⟩ := months Y 12 (D - bg Y) (by omega) (by omega) (by rw [rs_all]; omega) (by omega)
  have e1 : (13 - ((12 : Nat) : Int)) = 1 := by decide
  rw [e1] at hr
  have p := years_p ⟨y1, by omega⟩ y3 y4 (fun k hk => (hr k (by omega)).1)
  have q := years_r ⟨y1, by omega⟩ y3 y4 (fun k hk => (hr k (by omega)).2)
  refine ⟨r, fun k hk => ⟨?_, ?_⟩⟩
  · unfold date_Civil.f
    rw [vd_f, hv]
    simp only [Option.bind_some, if_true]
    rw [Int.tdiv_eq_ediv_of_nonneg h0, w64 (x := D / 366) (by omega) (by omega), w64 (x := 2000 + D / 366) (by omega) (by omega)]
    exact p (Y - (2000 + D / 366)).toNat (2000 + D / 366) (by omega) (by omega) k (by omega)
  · unfold corebankref04_Civil.f
    rw [rvd_f, hv]
    simp only [Option.bind_some, if_true]
    have e2 : bg 2000 = 0 := by decide
    have h := q (Y - 2000).toNat 2000 (by omega) (by omega) k (by omega)
    rw [e2, Int.sub_zero] at h
    exact h
theorem thirty_both {day : Int} (hv : vd day = true) : ∃ t : Int, ∀ k, 301 ≤ k → daycount_Thirty.f k day (wrap64 (day + 1)) = some t ∧ corebankref06_Thirty.f k day (wrap64 (day + 1)) = some t := by
  obtain ⟨r, hr⟩ := civil_both hv
  obtain ⟨h0, h1⟩ := vd_bd hv
  rw [w64 (x := day + 1) (by omega) (by omega)]
  unfold daycount_Thirty.f corebankref06_Thirty.f
  rw [vd_f, rvd_f, vd_f, rvd_f, hv]
  simp only [Option.bind_some, if_true]
  cases hw : vd (day + 1)
  · refine ⟨0, fun k hk => ?_⟩
    obtain ⟨k, rfl⟩ : ∃ i, k = i + 1 := ⟨k - 1, by omega⟩
    exact ⟨rfl, rfl⟩
  · obtain ⟨s, hs⟩ := civil_both hw
    refine ⟨wrap64 ((wrap64 ((wrap64 ((wrap64 (360 * (wrap64 (s.1 - r.1)))) + (wrap64 (30 * (wrap64 (s.2.1 - r.2.1)))))) + (mn s.2.2 30))) - (mn r.2.2 30)), fun k hk => ?_⟩
    obtain ⟨k, rfl⟩ : ∃ i, k = i + 1 := ⟨k - 1, by omega⟩
    simp only [daycount_Thirty.j0, corebankref06_Thirty.j0]
    rw [(hr k (by omega)).1, (hr k (by omega)).2, (hs k (by omega)).1, (hs k (by omega)).2]
    simp only [Option.bind_some]
    exact ⟨rfl, rfl⟩
theorem weight_both (basis : Int) {day : Int} (hv : vd day = true) : ∃ wt : Int, ∀ k, 302 ≤ k → daycount_Weight.f k basis day = some wt ∧ corebankref06_Weight.f k basis day = some wt := by
  obtain ⟨r, hr⟩ := civil_both hv
  obtain ⟨t, ht⟩ := thirty_both hv
  unfold daycount_Weight.f corebankref06_Weight.f
  rw [vd_f, rvd_f, hv]
  simp only [Option.bind_some, if_true]
  by_cases b3 : basis = 3
  · subst b3
    refine ⟨if leapY r.1 = true then 4380 else 4392, fun k hk => ?_⟩
    rw [(hr k (by omega)).1, (hr k (by omega)).2]
    simp only [Option.bind_some]
    rw [ref_Leap_eq, date_Leap.f]
    simp only [Option.bind_some]
    cases leapY r.1 <;> exact ⟨rfl, rfl⟩
  by_cases b2 : basis = 2
  · subst b2
    refine ⟨4392, fun k hk => ?_⟩
    rw [(hr k (by omega)).1]
    exact ⟨rfl, rfl⟩
  by_cases b4 : basis = 4
  · subst b4
    refine ⟨wrap64 (t * 4453), fun k hk => ?_⟩
    rw [(hr k (by omega)).1, (ht k (by omega)).1, (ht k (by omega)).2]
    exact ⟨rfl, by show some (wrap64 (4453 * t)) = _; rw [Int.mul_comm]⟩
  by_cases b1 : basis = 1
  · subst b1
    refine ⟨4453, fun k hk => ?_⟩
    rw [(hr k (by omega)).1]
    exact ⟨rfl, rfl⟩
  · refine ⟨0, fun k hk => ?_⟩
    rw [(hr k (by omega)).1]
    simp [b3, b2, b4, b1]
end Go.Proofs.Ytlmabdiodopidaa.G
end
section
set_option linter.unusedVariables false
set_option linter.unusedSimpArgs false
namespace Go.Proofs.Ytlmabdiodopidaa.G
open Go.RowKit Go.Proofs.Ytlmabdiodopidaa.P
theorem wrap_sub (a b : Int) : wrap64 (wrap64 a - b) = wrap64 (a - b) := by unfold wrap64; omega
theorem okI_wrap (a : Int) : okI (wrap64 a) := by unfold okI wrap64; omega
/-- what the legs of an account sum to -/
def legS (acct : Int) : List Leg → Int
  | [] => 0
  | x :: l => (if (x.acct == acct) = true then x.amt else 0) + legS acct l
/-- what the entries sum to that are booked and valued by then -/
def jourS (acct booked value : Int) : List Ent → Int
  | [] => 0
  | e :: l => (if e.booked ≤ booked ∧ e.value ≤ value then legS acct e.legs else 0) + jourS acct booked value l
theorem atS_legs (acct booked value bk vl : Int) : ∀ (l : List Leg) (n : Int), okI n → ((l.filter (fun l => l.acct == acct)).map (fun l => (bk, vl, l.amt))).foldl (atS booked value) n = if bk ≤ booked ∧ vl ≤ value then wrap64 (n - legS acct l) else n
  | [], n, h => by
    rw [List.filter_nil, List.map_nil, List.foldl_nil, legS, Int.sub_zero, wrap64_of h]
    split <;> rfl
  | x :: l, n, h => by
    rw [List.filter_cons, legS]
    split
    · rw [List.map_cons, List.foldl_cons]
      have e : atS booked value n (bk, vl, x.amt) = if bk ≤ booked ∧ vl ≤ value then wrap64 (n - x.amt) else n := rfl
      rw [e]
      split
      · rw [atS_legs acct booked value bk vl l _ (okI_wrap _), if_pos (by assumption), wrap_sub]
        congr 1
        omega
      · rw [atS_legs acct booked value bk vl l n h, if_neg (by assumption)]
    · rw [atS_legs acct booked value bk vl l n h, Int.zero_add]
theorem atF_sum (acct booked value : Int) : ∀ (l : List Ent) (n : Int), okI n → (mvs acct l).foldl (atS booked value) n = wrap64 (n - jourS acct booked value l)
  | [], n, h => by
    show n = _
    rw [jourS, Int.sub_zero, wrap64_of h]
  | e :: l, n, h => by
    have e1 : mvs acct (e :: l) = mvE acct e e.legs.length ++ mvs acct l := rfl
    rw [e1, List.foldl_append, jourS]
    unfold mvE
    rw [List.take_length, atS_legs acct booked value e.booked e.value e.legs n h]
    split
    · rw [atF_sum acct booked value l _ (okI_wrap _), wrap_sub]
      congr 1
      omega
    · rw [atF_sum acct booked value l n h, Int.zero_add]
theorem atF_eq (acct booked value : Int) (l : List Ent) : atF booked value (mvs acct l) = wrap64 (0 - jourS acct booked value l) := atF_sum acct booked value l 0 (by decide)
theorem atF_ok (acct booked value : Int) (l : List Ent) : okI (atF booked value (mvs acct l)) := by
  rw [atF_eq]
  exact okI_wrap _
end Go.Proofs.Ytlmabdiodopidaa.G
end
section
set_option linter.unusedVariables false
set_option linter.unusedSimpArgs false
namespace Go.Proofs.Ytlmabdiodopidaa.G
open Go.RowKit Go.Proofs.Ytlmabdiodopidaa.P Go.Proofs.YtlmabdiodopidaaW.PrintWords

theorem rd50_mem {l : List S50} {x : Int} (h0 : 0 ≤ x) (h1 : x < l.length) : rd_T50 l x ∈ l := by
  unfold rd_T50
  rw [List.getD_eq_getElem?_getD, List.getElem?_eq_getElem (by omega), Option.getD_some]
  exact List.getElem_mem _
theorem drop50 {l : List S50} {x : Int} (h0 : 0 ≤ x) (h1 : x < l.length) : l.drop x.toNat = rd_T50 l x :: l.drop (x + 1).toNat := by
  unfold rd_T50
  rw [List.getD_eq_getElem?_getD, List.getElem?_eq_getElem (by omega), Option.getD_some, show (x + 1).toNat = x.toNat + 1 by omega]
  exact List.drop_eq_getElem_cons (by omega)

/-! ### Check -/
theorem ref_Check_l1 (l : List S50) (hl : l.length ≤ 6) : ∀ (d k : Nat) (x : Int), 1 ≤ x → x ≤ 7 → (7 - x).toNat = d → d + 1 ≤ k → ascTo l (if x ≤ l.length then x else l.length) →
    corebankref14_Check.l1 k l x = some (if ascB l = false then 10 else if l ≠ [] ∧ (rd_T50 l 0).f0 ≠ 0 then 1 else 0) := by
  intro d
  induction d with
  | zero =>
    intro k x h1 h2 hd hk ha
    obtain ⟨k, rfl, hk⟩ := step1 hk
    simp only [corebankref14_Check.l1]
    have hx : ¬ x < l.length := by omega
    rw [if_neg hx]
    have hy : ascB l = true := ascB_yes (fun i a b => ha i a (by split <;> omega))
    rw [hy]
    by_cases hn : l = []
    · subst hn; simp
    · have : 0 < l.length := List.length_pos_iff.2 hn
      rw [if_pos (by omega), if_pos (by omega)]
      by_cases hf : (rd_T50 l 0).f0 = 0
      · rw [if_pos hf]; simp [hf]
      · rw [if_neg hf]; simp [hf, hn]
  | succ d ih =>
    intro k x h1 h2 hd hk ha
    obtain ⟨k, rfl, hk⟩ := step1 hk
    simp only [corebankref14_Check.l1]
    by_cases hx : x < l.length
    · have e1 : wrap64 (x - 1) = x - 1 := w64 (by omega) (by omega)
      have e2 : wrap64 (x + 1) = x + 1 := w64 (by omega) (by omega)
      rw [if_pos hx, if_pos (by omega), e1, e2, if_pos (by omega), if_pos (by omega)]
      by_cases hv : (rd_T50 l x).f0 ≤ (rd_T50 l (x - 1)).f0
      · rw [if_pos hv, ascB_no h1 hx hv]; simp
      · rw [if_neg hv]
        refine ih k (x + 1) (by omega) (by omega) (by omega) (by omega) (fun i a b => ?_)
        by_cases hi : i = x
        · subst hi; omega
        · exact ha i a (by split at b <;> split <;> omega)
    · rw [if_neg hx]
      have hy : ascB l = true := ascB_yes (fun i a b => ha i a (by split <;> omega))
      rw [hy]
      by_cases hn : l = []
      · subst hn; simp
      · have : 0 < l.length := List.length_pos_iff.2 hn
        rw [if_pos (by omega), if_pos (by omega)]
        by_cases hf : (rd_T50 l 0).f0 = 0
        · rw [if_pos hf]; simp [hf]
        · rw [if_neg hf]; simp [hf, hn]
theorem ref_Check_l0 (l : List S50) (hl : l.length ≤ 6) : ∀ (d k : Nat) (x : Int), 0 ≤ x → x ≤ l.length → (l.length - x).toNat = d → d + 9 ≤ k → (∀ i : Int, 0 ≤ i → i < x → badT (rd_T50 l i) = false) →
    corebankref14_Check.l0 k l x = some (checkT l) := by
  intro d
  induction d with
  | zero =>
    intro k x h1 h2 hd hk ha
    obtain ⟨k, rfl, hk⟩ := step1 hk
    simp only [corebankref14_Check.l0]
    rw [if_neg (by omega), ref_Check_l1 l hl 6 k 1 (by omega) (by omega) (by omega) (by omega) (fun i a b => by split at b <;> omega)]
    unfold checkT
    have hl' : ¬ 6 < l.length := by omega
    rw [if_neg hl', bad_none (fun i a b => ha i a (by omega))]
    simp
  | succ d ih =>
    intro k x h1 h2 hd hk ha
    obtain ⟨k, rfl, hk⟩ := step1 (n := d + 9) hk
    simp only [corebankref14_Check.l0]
    have hx : x < l.length := by omega
    have e2 : wrap64 (x + 1) = x + 1 := w64 (by omega) (by omega)
    rw [if_pos hx, if_pos h1, e2]
    have bad := fun h => check_bad (l := l) (by omega) h1 hx h
    by_cases c1 : (rd_T50 l x).f0 < 0
    · rw [if_pos c1, bad (by unfold badT; simp; omega)]
    rw [if_neg c1]
    by_cases c2 : (rd_T50 l x).f0 > 1000000000000
    · rw [if_pos c2, bad (by unfold badT; simp; omega)]
    rw [if_neg c2]
    by_cases c3 : (rd_T50 l x).f1 < 0
    · rw [if_pos c3, bad (by unfold badT; simp; omega)]
    rw [if_neg c3]
    by_cases c4 : (rd_T50 l x).f1 > 1000000
    · rw [if_pos c4, bad (by unfold badT; simp; omega)]
    rw [if_neg c4]
    refine ih k (x + 1) (by omega) (by omega) (by omega) (by omega) (fun i a b => ?_)
    by_cases hi : i = x
    · subst hi; unfold badT; simp; omega
    · exact ha i a (by omega)
theorem ref_Check_eq {k : Nat} {l : List S50} (hk : 20 ≤ k) : corebankref14_Check.f k l = some (checkT l) := by
  unfold corebankref14_Check.f
  by_cases hl : (l.length : Int) > 6
  · rw [if_pos hl]; unfold checkT; rw [if_pos (by omega)]
  · rw [if_neg hl]
    exact ref_Check_l0 l (by omega) _ k 0 (by omega) (by omega) rfl (by omega) (fun i a b => by omega)
/-- tiers that are accepted -/
structure Good (l : List S50) : Prop where
  len : l.length ≤ 6
  ok : ∀ x ∈ l, 0 ≤ x.f0 ∧ x.f0 ≤ 1000000000000 ∧ 0 ≤ x.f1 ∧ x.f1 ≤ 1000000
  up : ∀ i : Int, 1 ≤ i → i < l.length → (rd_T50 l (i - 1)).f0 < (rd_T50 l i).f0
  zero : l ≠ [] → (rd_T50 l 0).f0 = 0
theorem good_of {l : List S50} (h : checkT l = 0) : Good l := by
  unfold checkT at h
  by_cases c1 : 6 < l.length
  · rw [if_pos c1] at h; omega
  rw [if_neg c1] at h
  by_cases c2 : l.any badT = true
  · rw [if_pos c2] at h; omega
  rw [if_neg c2] at h
  by_cases c3 : ascB l = false
  · rw [if_pos c3] at h; omega
  rw [if_neg c3] at h
  by_cases c4 : l ≠ [] ∧ (rd_T50 l 0).f0 ≠ 0
  · rw [if_pos c4] at h; omega
  refine ⟨by omega, fun x hx => ?_, fun i h1 h2 => ?_, fun hn => ?_⟩
  · have hb : badT x = false := by
      have := List.any_eq_false.1 (by simpa using c2) x hx
      simpa using this
    unfold badT at hb
    simp at hb
    omega
  · by_cases hv : (rd_T50 l i).f0 ≤ (rd_T50 l (i - 1)).f0
    · exact absurd (ascB_no h1 h2 hv) c3
    · omega
  · exact Decidable.byContradiction fun hz => c4 ⟨hn, hz⟩

/-! ### sizes and rates -/
/-- the size of a balance -/
def szB (b : Int) : Int := if b = -9223372036854775808 then 9223372036854775807 else if b < 0 then -b else b
theorem szB_ok {b : Int} (h : okI b) : 0 ≤ szB b ∧ szB b ≤ 9223372036854775807 := by unfold okI at h; unfold szB; split <;> (try split) <;> omega
theorem tier_size_eq {b : Int} (h : okI b) : tier_size.f b = some (szB b) := by
  unfold okI at h
  unfold tier_size.f szB mx
  by_cases h0 : b = -9223372036854775808
  · subst h0; rfl
  · rw [if_neg (by omega), w64 (by omega) (by omega), if_neg h0]
    simp only [Option.some.injEq]
    split <;> split <;> omega
theorem ref_Size_eq {b : Int} (h : okI b) : corebankref14_Size.f b = some (szB b) := by
  unfold okI at h
  unfold corebankref14_Size.f szB
  split
  · rfl
  · split
    · rw [w64 (by omega) (by omega)]
    · rfl
/-- the rate of the last tier that is reached -/
def rateL (s : Int) : List S50 → Int → Int
  | [], acc => acc
  | t :: l, acc => rateL s l (if t.f0 ≤ s then t.f1 else acc)
theorem tier_Rate_loop {b : Int} (hb : okI b) (l : List S50) (hl : l.length ≤ 6) : ∀ (d k : Nat) (x acc : Int), 0 ≤ x → x ≤ l.length → (l.length - x).toNat = d → d + 1 ≤ k → tier_Rate.l0 k b acc l l.length x = some (rateL (szB b) (l.drop x.toNat) acc) := by
  intro d
  induction d with
  | zero =>
    intro k x acc h1 h2 hd hk
    obtain ⟨k, rfl, _⟩ := step1 hk
    simp only [tier_Rate.l0]
    rw [if_neg (by omega), List.drop_eq_nil_of_le (by omega)]
    rfl
  | succ d ih =>
    intro k x acc h1 h2 hd hk
    obtain ⟨k, rfl, _⟩ := step1 hk
    have hx : x < l.length := by omega
    simp only [tier_Rate.l0]
    rw [if_pos hx, if_pos h1, if_pos hx, tier_size_eq hb, w64 (by omega) (by omega), drop50 h1 hx]
    simp only [Option.bind_some, rateL]
    split <;> exact ih k (x + 1) _ (by omega) (by omega) (by omega) (by omega)
theorem ref_Rate_loop {b : Int} (hb : okI b) (l : List S50) (hl : l.length ≤ 6) : ∀ (d k : Nat) (x acc : Int), 0 ≤ x → x ≤ l.length → (l.length - x).toNat = d → d + 1 ≤ k → corebankref14_Rate.l0 k l b acc x = some (rateL (szB b) (l.drop x.toNat) acc) := by
  intro d
  induction d with
  | zero =>
    intro k x acc h1 h2 hd hk
    obtain ⟨k, rfl, _⟩ := step1 hk
    simp only [corebankref14_Rate.l0]
    rw [if_neg (by omega), List.drop_eq_nil_of_le (by omega)]
    rfl
  | succ d ih =>
    intro k x acc h1 h2 hd hk
    obtain ⟨k, rfl, _⟩ := step1 hk
    have hx : x < l.length := by omega
    simp only [corebankref14_Rate.l0]
    rw [if_pos hx, if_pos h1, ref_Size_eq hb, w64 (by omega) (by omega), drop50 h1 hx]
    simp only [Option.bind_some, rateL]
    split <;> exact ih k (x + 1) _ (by omega) (by omega) (by omega) (by omega)
/-- the rate of a balance -/
def rateB (l : List S50) (b : Int) : Int := if checkT l = 0 then rateL (szB b) l 0 else 0
theorem tier_Rate_eq {k : Nat} {l : List S50} {b : Int} (hk : 20 ≤ k) (hb : okI b) : tier_Rate.f k l b = some (rateB l b) := by
  unfold tier_Rate.f tier_Check.f rateB
  simp only [Option.bind_some]
  by_cases h : checkT l = 0
  · rw [if_pos h, if_pos h, tier_Rate_loop hb l (good_of h).len _ k 0 0 (by omega) (by omega) rfl (by have := (good_of h).len; omega)]
    rfl
  · rw [if_neg h, if_neg h]
theorem ref_Rate_eq {k : Nat} {l : List S50} {b : Int} (hk : 20 ≤ k) (hb : okI b) : corebankref14_Rate.f k l b = some (rateB l b) := by
  unfold corebankref14_Rate.f rateB
  rw [ref_Check_eq hk]
  simp only [Option.bind_some]
  by_cases h : checkT l = 0
  · rw [if_pos h, if_pos h, ref_Rate_loop hb l (good_of h).len _ k 0 0 (by omega) (by omega) rfl (by have := (good_of h).len; omega)]
    rfl
  · rw [if_neg h, if_neg h]

/-! ### slices -/
/-- the parts of n -/
def partsL (n : Int) : List S50 → List S43
  | [] => []
  | [t] => if t.f0 < n then [⟨n - t.f0, t.f1⟩] else []
  | t :: u :: l => (if t.f0 < mn n u.f0 then [⟨mn n u.f0 - t.f0, t.f1⟩] else []) ++ partsL n (u :: l)
theorem drop50_two {l : List S50} {x : Int} (h0 : 0 ≤ x) (h1 : x + 1 < l.length) : l.drop x.toNat = rd_T50 l x :: rd_T50 l (x + 1) :: l.drop (x + 2).toNat := by
  rw [drop50 h0 (by omega), drop50 (x := x + 1) (by omega) h1, show x + 1 + 1 = x + 2 by omega]
theorem partsL_step {l : List S50} {x n : Int} (h0 : 0 ≤ x) (h1 : x + 1 < l.length) : partsL n (l.drop x.toNat) = (if (rd_T50 l x).f0 < mn n (rd_T50 l (x + 1)).f0 then [⟨mn n (rd_T50 l (x + 1)).f0 - (rd_T50 l x).f0, (rd_T50 l x).f1⟩] else []) ++ partsL n (l.drop (x + 1).toNat) := by
  rw [drop50_two h0 h1, partsL, drop50 (x := x + 1) (by omega) h1, show x + 1 + 1 = x + 2 by omega]
theorem partsL_last {l : List S50} {x n : Int} (h0 : 0 ≤ x) (h1 : x < l.length) (h2 : ¬ x + 1 < l.length) : partsL n (l.drop x.toNat) = (if (rd_T50 l x).f0 < n then [⟨n - (rd_T50 l x).f0, (rd_T50 l x).f1⟩] else []) := by
  rw [drop50 h0 h1, List.drop_eq_nil_of_le (by omega), partsL]
theorem mn_le (a b : Int) : mn a b ≤ a ∧ mn a b ≤ b ∧ (mn a b = a ∨ mn a b = b) := by unfold mn; split <;> omega
theorem tier_Slices_loop {l : List S50} (g : Good l) {n : Int} (hn : 0 ≤ n ∧ n ≤ 9223372036854775807) : ∀ (d k : Nat) (x : Int) (acc : List S43), 0 ≤ x → x ≤ l.length → (l.length - x).toNat = d → d + 1 ≤ k → acc.length + d ≤ 100 →
    tier_Slices.l0 k l n acc l l.length x = some (acc ++ partsL n (l.drop x.toNat)) := by
  have hl := g.len
  intro d
  induction d with
  | zero =>
    intro k x acc h1 h2 hd hk _
    obtain ⟨k, rfl, _⟩ := step1 hk
    simp only [tier_Slices.l0]
    rw [if_neg (by omega), List.drop_eq_nil_of_le (by omega), partsL, List.append_nil]
  | succ d ih =>
    intro k x acc h1 h2 hd hk ha
    obtain ⟨k, rfl, _⟩ := step1 hk
    have hx : x < l.length := by omega
    obtain ⟨b1, b2, b3, b4⟩ := g.ok _ (rd50_mem h1 hx)
    have e2 : wrap64 (x + 1) = x + 1 := w64 (by omega) (by omega)
    simp only [tier_Slices.l0]
    rw [if_pos hx, if_pos h1, if_pos hx, e2]
    by_cases hy : x + 1 < l.length
    · obtain ⟨c1, c2, c3, c4⟩ := g.ok _ (rd50_mem (x := x + 1) (by omega) hy)
      have m1 := mn_le n (rd_T50 l (x + 1)).f0
      rw [if_pos hy, if_pos (by omega), partsL_step h1 hy]
      by_cases hc : mn n (rd_T50 l (x + 1)).f0 > (rd_T50 l x).f0
      · rw [if_pos hc, if_pos (by omega), w64 (by omega) (by omega), ih k (x + 1) _ (by omega) (by omega) (by omega) (by omega) (by rw [List.length_append, List.length_singleton]; omega), if_pos (by omega), List.append_assoc]
      · rw [if_neg hc, ih k (x + 1) _ (by omega) (by omega) (by omega) (by omega) (by omega), if_neg (by omega), List.nil_append]
    · rw [if_neg hy, partsL_last h1 hx hy]
      have en : l.drop (x + 1).toNat = [] := List.drop_eq_nil_of_le (by omega)
      by_cases hc : n > (rd_T50 l x).f0
      · rw [if_pos hc, if_pos (by omega), w64 (by omega) (by omega), ih k (x + 1) _ (by omega) (by omega) (by omega) (by omega) (by rw [List.length_append, List.length_singleton]; omega), if_pos (by omega), en, partsL, List.append_nil]
      · rw [if_neg hc, ih k (x + 1) _ (by omega) (by omega) (by omega) (by omega) (by omega), if_neg (by omega), en, partsL]
theorem ref_Slices_loop {l : List S50} (g : Good l) {n : Int} (hn : 0 ≤ n ∧ n ≤ 9223372036854775807) : ∀ (d k : Nat) (x : Int) (acc : List S43), 0 ≤ x → x ≤ l.length → (l.length - x).toNat = d → 2 * d + 1 ≤ k → acc.length + d ≤ 100 →
    corebankref14_Slices.l0 k l acc n x = some (acc ++ partsL n (l.drop x.toNat)) := by
  have hl := g.len
  intro d
  induction d with
  | zero =>
    intro k x acc h1 h2 hd hk _
    obtain ⟨k, rfl, _⟩ := step1 hk
    simp only [corebankref14_Slices.l0]
    rw [if_neg (by omega), List.drop_eq_nil_of_le (by omega), partsL, List.append_nil]
  | succ d ih =>
    intro k x acc h1 h2 hd hk ha
    obtain ⟨k, rfl, _⟩ := step1 (n := 2 * d + 2) (by omega)
    obtain ⟨k, rfl, _⟩ := step1 (n := 2 * d + 1) (k := k) (by omega)
    have hx : x < l.length := by omega
    obtain ⟨b1, b2, b3, b4⟩ := g.ok _ (rd50_mem h1 hx)
    have e2 : wrap64 (x + 1) = x + 1 := w64 (by omega) (by omega)
    simp only [corebankref14_Slices.l0]
    rw [if_pos hx, e2]
    by_cases hy : x + 1 < l.length
    · obtain ⟨c1, c2, c3, c4⟩ := g.ok _ (rd50_mem (x := x + 1) (by omega) hy)
      rw [if_pos hy, if_pos (by omega), partsL_step h1 hy]
      simp only [corebankref14_Slices.j2]
      rw [e2]
      by_cases hm : (rd_T50 l (x + 1)).f0 < n
      · have em : mn n (rd_T50 l (x + 1)).f0 = (rd_T50 l (x + 1)).f0 := by unfold mn; rw [if_pos hm]
        rw [if_pos (by simpa using hm), if_pos (by omega), if_pos hy, if_pos h1, if_pos hx, em]
        by_cases hc : (rd_T50 l (x + 1)).f0 > (rd_T50 l x).f0
        · rw [if_pos hc, if_pos (by omega), w64 (by omega) (by omega), ih k (x + 1) _ (by omega) (by omega) (by omega) (by omega) (by rw [List.length_append, List.length_singleton]; omega), if_pos (by omega), List.append_assoc]
        · rw [if_neg hc, ih k (x + 1) _ (by omega) (by omega) (by omega) (by omega) (by omega), if_neg (by omega), List.nil_append]
      · have em : mn n (rd_T50 l (x + 1)).f0 = n := by unfold mn; rw [if_neg hm]
        rw [if_neg (by simpa using hm), if_pos h1, if_pos hx, em]
        by_cases hc : n > (rd_T50 l x).f0
        · rw [if_pos hc, if_pos (by omega), w64 (by omega) (by omega), ih k (x + 1) _ (by omega) (by omega) (by omega) (by omega) (by rw [List.length_append, List.length_singleton]; omega), if_pos (by omega), List.append_assoc]
        · rw [if_neg hc, ih k (x + 1) _ (by omega) (by omega) (by omega) (by omega) (by omega), if_neg (by omega), List.nil_append]
    · rw [if_neg hy, partsL_last h1 hx hy]
      simp only [corebankref14_Slices.j2]
      rw [if_neg (by simp), if_pos h1, if_pos hx, e2]
      have en : l.drop (x + 1).toNat = [] := List.drop_eq_nil_of_le (by omega)
      by_cases hc : n > (rd_T50 l x).f0
      · rw [if_pos hc, if_pos (by omega), w64 (by omega) (by omega), ih k (x + 1) _ (by omega) (by omega) (by omega) (by omega) (by rw [List.length_append, List.length_singleton]; omega), if_pos (by omega), en, partsL, List.append_nil]
      · rw [if_neg hc, ih k (x + 1) _ (by omega) (by omega) (by omega) (by omega) (by omega), if_neg (by omega), en, partsL]
/-- the slices of a balance -/
def slicesB (l : List S50) (m : Bool) (b : Int) : List S43 := if checkT l ≠ 0 ∨ l = [] ∨ szB b = 0 then [] else if m = true then partsL (szB b) l else [⟨szB b, rateB l b⟩]
theorem tier_Slices_eq {k : Nat} {l : List S50} {m : Bool} {b : Int} (hk : 30 ≤ k) (hb : okI b) : tier_Slices.f k l m b = some (slicesB l m b) := by
  obtain ⟨k, rfl, hk⟩ := step1 (n := 29) hk
  have hn := szB_ok hb
  unfold tier_Slices.f tier_Check.f slicesB
  rw [tier_size_eq hb]
  simp only [Option.bind_some, tier_Slices.j0]
  by_cases hl : l = []
  · subst hl; simp
  have h0 : ¬ (l.length : Int) = 0 := fun h => hl (List.length_eq_zero_iff.1 (by omega))
  rw [if_neg h0]
  by_cases hc : checkT l = 0
  · rw [if_pos hc]
    by_cases hz : szB b = 0
    · simp [hz]
    · have e1 : (szB b == 0) = false := by simpa using hz
      have e2 : ¬ (checkT l ≠ 0 ∨ l = [] ∨ szB b = 0) := by simp [hc, hl, hz]
      rw [if_neg e2, e1]
      simp only [Bool.false_eq_true, if_false]
      by_cases hm : m = true
      · rw [if_pos hm, if_pos hm, tier_Slices_loop (good_of hc) hn _ k 0 [] (by omega) (by omega) rfl (by have := (good_of hc).len; omega) (by have := (good_of hc).len; simp; omega)]
        rfl
      · rw [if_neg hm, if_neg hm, tier_Rate_eq (by omega) hb]
        rfl
  · simp [hc]
theorem ref_Slices_eq {k : Nat} {l : List S50} {m : Bool} {b : Int} (hk : 30 ≤ k) (hb : okI b) : corebankref14_Slices.f k l m b = some (slicesB l m b) := by
  obtain ⟨k, rfl, hk⟩ := step1 (n := 29) hk
  have hn := szB_ok hb
  unfold corebankref14_Slices.f slicesB
  simp only [Option.bind_some]
  rw [ref_Size_eq hb, ref_Check_eq (by omega)]
  simp only [Option.bind_some, corebankref14_Slices.j0]
  by_cases hc : checkT l = 0
  · rw [if_pos hc]
    by_cases hl : l = []
    · subst hl; simp
    have h0 : ¬ (l.length : Int) = 0 := fun h => hl (List.length_eq_zero_iff.1 (by omega))
    rw [if_neg h0]
    by_cases hz : szB b = 0
    · simp [hz]
    · have e1 : (szB b == 0) = false := by simpa using hz
      have e2 : ¬ (checkT l ≠ 0 ∨ l = [] ∨ szB b = 0) := by simp [hc, hl, hz]
      rw [if_neg e2, e1]
      simp only [Bool.false_eq_true, if_false]
      by_cases hm : m = true
      · rw [if_pos hm, if_pos hm, ref_Slices_loop (good_of hc) hn _ k 0 [] (by omega) (by omega) rfl (by have := (good_of hc).len; omega) (by have := (good_of hc).len; simp; omega)]
        rfl
      · rw [if_neg hm, if_neg hm, ref_Rate_eq (by omega) hb]
        rfl
  · simp [hc]
end Go.Proofs.Ytlmabdiodopidaa.G
end
section
set_option linter.unusedVariables false
set_option linter.unusedSimpArgs false
namespace Go.Proofs.Ytlmabdiodopidaa.G
open Go.RowKit Go.Proofs.Ytlmabdiodopidaa.P Go.Proofs.YtlmabdiodopidaaW.PrintWords

theorem absI_nonneg (x : Int) : 0 ≤ absI x := by unfold absI; split <;> omega
theorem wide_abs_eq {n : Int} (h : okI n) : wide_abs.f n = some (absI n) := by
  unfold okI at h
  unfold wide_abs.f absI
  split
  · simp only [IntKind.wrap_u64, Option.some.injEq]; omega
  · simp only [IntKind.wrap_u64, Option.some.injEq]; omega
theorem absI_okU {n : Int} (h : okI n) : okU (absI n) := by unfold okI at h; unfold okU absI; split <;> omega
theorem wide_absolute_eq {a b : Int} (h : okW a b) : wide_absolute.f a b = some (hi (absI (val a b)), lo (absI (val a b))) := by
  have h' := h
  obtain ⟨⟨h1, h2⟩, h3, h4⟩ := h
  unfold wide_absolute.f
  by_cases ha : a < 0
  · rw [if_pos ha]
    unfold wide_negate.f
    rw [if_pos h']
    have hv : val a b < 0 := by unfold val; omega
    simp only [Option.bind_some, Option.some.injEq, Prod.mk.injEq, IntKind.wrap_u64]
    unfold absI
    rw [if_pos hv]
    refine ⟨?_, rfl⟩
    unfold wrap64 hi
    unfold val at hv ⊢
    omega
  · rw [if_neg ha]
    have hv : ¬ val a b < 0 := by unfold val; omega
    simp only [Option.some.injEq, Prod.mk.injEq, IntKind.wrap_u64]
    unfold absI
    rw [if_neg hv]
    unfold hi lo val
    omega
theorem mag_ok {a b : Int} (h : okW a b) : okU (hi (absI (val a b))) ∧ okU (lo (absI (val a b))) := by
  obtain ⟨⟨h1, h2⟩, h3, h4⟩ := h
  unfold okU hi lo absI
  unfold val
  split <;> omega
/-- a number with a sign and a size -/
def sgn (b : Bool) (m : Int) : Int := if b = true then -m else m
theorem signed_eq {k : Nat} {a b : Int} {m : Bool} (hk : 1 ≤ k) (h1 : okU a) (h2 : okU b) : wide_size_signed.f k a b m = some (out (sgn m (val a b))) := by
  obtain ⟨k, rfl⟩ : ∃ j, k = j + 1 := ⟨k - 1, by omega⟩
  unfold okU at h1 h2
  have key : ∀ c : Bool, (c = true ↔ ¬ fits (sgn m (val a b))) → wide_size_signed.j0 (k + 1) m c a b = some (out (sgn m (val a b))) := by
    intro c hc
    simp only [wide_size_signed.j0]
    by_cases hcc : c = true
    · rw [if_pos hcc]
      unfold out
      rw [if_neg (hc.1 hcc)]
    · rw [if_neg hcc]
      have hf : fits (sgn m (val a b)) := by
        refine Decidable.byContradiction fun hn => hcc (hc.2 hn)
      unfold out
      rw [if_pos hf]
      cases m
      · rw [if_neg (by simp)]
        unfold sgn fits val at hf
        simp at hf
        unfold sgn hi lo wrap64 val
        simp
        omega
      · rw [if_pos rfl]
        unfold sgn fits val at hf
        simp at hf
        unfold wide_negate.f
        have ho : okW (wrap64 a) b := by unfold okW okI okU wrap64; omega
        rw [if_pos ho]
        simp only [Option.bind_some, Option.some.injEq, Prod.mk.injEq, and_true]
        unfold sgn hi lo wrap64 val
        simp
        omega
  unfold wide_size_signed.f
  split
  · refine key true ?_
    simp
    unfold fits sgn val
    cases m <;> simp <;> omega
  · split
    · rename_i he
      cases m
      · rw [if_neg (by simp)]
        refine key true ?_
        simp
        unfold fits sgn val
        simp; omega
      · rw [if_pos rfl]
        refine key _ ?_
        unfold fits sgn val
        simp; omega
    · refine key false ?_
      unfold fits sgn val
      cases m <;> simp <;> omega

theorem sgn_mul (a n : Int) : a * n = sgn (decide (a < 0) != decide (n < 0)) (absI a * absI n) := by
  unfold sgn absI
  by_cases h1 : a < 0 <;> by_cases h2 : n < 0 <;> simp [h1, h2, Int.neg_mul, Int.mul_neg]
theorem fits_small {s : Int} (b : Bool) (h0 : 0 ≤ s) (h : fits (sgn b s)) : s < 340282366920938463463374607431768211456 := by
  unfold fits sgn at h
  cases b <;> simp at h <;> omega
theorem val_neg_iff {a b : Int} (h : okW a b) : a < 0 ↔ val a b < 0 := by
  obtain ⟨⟨h1, h2⟩, h3, h4⟩ := h
  unfold val; omega
theorem wide_Scale_eq {k : Nat} {a b n : Int} (hk : 1 ≤ k) (h : okW a b) (hn : okI n) : wide_Scale.f k a b n = some (out (val a b * n)) := by
  unfold wide_Scale.f
  rw [wide_absolute_eq h, wide_abs_eq hn]
  simp only [Option.bind_some]
  obtain ⟨m1, m2⟩ := mag_ok h
  have m3 := absI_okU hn
  unfold wide_size_times.f
  rw [if_pos ⟨m1, m2, m3, by unfold okU; omega⟩]
  simp only [Option.bind_some, val_hi_lo, Int.add_zero]
  have e := sgn_mul (val a b) n
  have z := Int.mul_nonneg (absI_nonneg (val a b)) (absI_nonneg n)
  have hs : decide (a < 0) = decide (val a b < 0) := by rw [decide_eq_decide]; exact val_neg_iff h
  rw [hs, e]
  generalize (decide (val a b < 0) != decide (n < 0)) = s
  generalize absI (val a b) * absI n = M at *
  by_cases hM : M < 340282366920938463463374607431768211456
  · rw [if_pos (by simpa using hM)]
    have u1 : hi M % 18446744073709551616 = hi M := by unfold hi; omega
    have u2 : okU (hi M) := by unfold okU hi; omega
    have u3 : okU (lo M) := by unfold okU lo; omega
    rw [u1]
    cases s
    · rw [if_neg (by simp), signed_eq hk u2 u3, val_hi_lo]
      rfl
    · rw [if_pos rfl, signed_eq hk u2 u3, val_hi_lo]
      simp only [Option.bind_some]
      by_cases h0 : M = 0
      · subst h0; rfl
      · have : (!(hi M == 0) || !(lo M == 0)) = true := by
          have : hi M ≠ 0 ∨ lo M ≠ 0 := by unfold hi lo; omega
          rcases this with h | h <;> simp [h]
        rw [this]
  · rw [if_neg (by simpa using hM)]
    unfold out
    rw [if_neg (fun hf => hM (fits_small s z hf))]
theorem wide_Mul_eq {a b : Int} (ha : okI a) (hb : okI b) : wide_Mul.f a b = some (hi (a * b), lo (a * b)) := by
  unfold wide_Mul.f
  rw [wide_abs_eq ha, wide_abs_eq hb]
  simp only [Option.bind_some]
  unfold bits_Mul64.f
  rw [if_pos ⟨absI_okU ha, absI_okU hb⟩]
  simp only [Option.bind_some]
  have e := sgn_mul a b
  have z := Int.mul_nonneg (absI_nonneg a) (absI_nonneg b)
  have l : absI a * absI b ≤ 85070591730234615865843651857942052864 := by
    have h1 : absI a ≤ 9223372036854775808 := by unfold okI at ha; unfold absI; split <;> omega
    have h2 : absI b ≤ 9223372036854775808 := by unfold okI at hb; unfold absI; split <;> omega
    have := Int.mul_le_mul h1 h2 (absI_nonneg b) (by omega)
    omega
  rw [e]
  generalize (decide (a < 0) != decide (b < 0)) = s
  generalize absI a * absI b = M at *
  cases s
  · rw [if_neg (by simp)]
    unfold sgn hi lo wrap64
    simp; omega
  · rw [if_pos rfl]
    unfold wide_negate.f
    have ho : okW (wrap64 (M / 18446744073709551616)) (M % 18446744073709551616) := by unfold okW okI okU wrap64; omega
    rw [if_pos ho]
    unfold sgn hi lo wrap64 val
    simp; omega

/-! ### the reference's -/
end Go.Proofs.Ytlmabdiodopidaa.G
end
section
set_option linter.unusedVariables false
set_option linter.unusedSimpArgs false
namespace Go.Proofs.Ytlmabdiodopidaa.G
open Go.RowKit Go.Proofs.Ytlmabdiodopidaa.P Go.Proofs.YtlmabdiodopidaaW.PrintWords
/-- a slice's parts are ints -/
def okS (s : S43) : Prop := okI s.f0 ∧ okI s.f1
/-- a slice that is refused -/
def badS (s : S43) : Bool := decide (s.f0 < 0) || (decide (s.f1 < 0) || decide (s.f1 > 1000000))
def sumG (w : Int) : List S43 → Int
  | [] => 0
  | s :: r => s.f0 * s.f1 * w + sumG w r
theorem rd43_mem {l : List S43} {x : Int} (h0 : 0 ≤ x) (h1 : x < l.length) : rd_T43 l x ∈ l := by
  unfold rd_T43
  rw [List.getD_eq_getElem?_getD, List.getElem?_eq_getElem (by omega), Option.getD_some]
  exact List.getElem_mem _
theorem drop43 {l : List S43} {x : Int} (h0 : 0 ≤ x) (h1 : x < l.length) : l.drop x.toNat = rd_T43 l x :: l.drop (x + 1).toNat := by
  unfold rd_T43
  rw [List.getD_eq_getElem?_getD, List.getElem?_eq_getElem (by omega), Option.getD_some, show (x + 1).toNat = x.toNat + 1 by omega]
  exact List.drop_eq_getElem_cons (by omega)
theorem gterm {a b w : Int} (ha : 0 ≤ a) (ha' : a < 9223372036854775808) (hb : 0 ≤ b) (hb' : b ≤ 1000000) (hw : 0 ≤ w ∧ w ≤ 6412320000) : (0 ≤ a * b ∧ a * b ≤ 9223372036854775808000000) ∧ 0 ≤ a * b * w ∧ a * b * w ≤ 59143212979364616009154560000000000 := by
  have h1 := Int.mul_nonneg ha hb
  have h2 : a * b ≤ 9223372036854775808 * 1000000 := Int.mul_le_mul (by omega) hb' hb (by omega)
  have h3 := Int.mul_nonneg h1 hw.1
  have h4 : a * b * w ≤ 9223372036854775808 * 1000000 * 6412320000 := Int.mul_le_mul h2 hw.2 hw.1 (by omega)
  omega
theorem wide_Add_eq {a b c d : Int} (h1 : okW a b) (h2 : okW c d) : wide_Add.f a b c d = some (out (val a b + val c d)) := by
  unfold wide_Add.f
  rw [if_pos ⟨h1, h2⟩]
theorem out_fits {s : Int} (h : fits s) : out s = (hi s, lo s, 0) := by unfold out; rw [if_pos h]
theorem tier_Grains_loop {w : Int} (hw : 0 ≤ w ∧ w ≤ 6412320000) (l : List S43) (hl : l.length ≤ 6) (ok : ∀ s ∈ l, okS s) : ∀ (d k : Nat) (x A : Int), 0 ≤ x → x ≤ l.length → (l.length - x).toNat = d → 2 * d + 1 ≤ k → 0 ≤ A → A ≤ x * 59143212979364616009154560000000000 → tier_Grains.l0 k w l l.length x (hi A) (lo A) = some (if (l.drop x.toNat).any badS = true then (0, 0, 1) else (hi (A + sumG w (l.drop x.toNat)), lo (A + sumG w (l.drop x.toNat)), 0)) := by
  intro d
  induction d with
  | zero =>
    intro k x A h1 h2 hd hk hA hA'
    obtain ⟨k, rfl, _⟩ := step1 hk
    simp only [tier_Grains.l0]
    rw [if_neg (by omega), List.drop_eq_nil_of_le (by omega)]
    simp [sumG]
  | succ d ih =>
    intro k x A h1 h2 hd hk hA hA'
    obtain ⟨k, rfl, hk⟩ := step1 (n := 2 * d + 2) (by omega)
    obtain ⟨k, rfl, hk⟩ := step1 (n := 2 * d + 1) (by omega)
    have hx : x < l.length := by omega
    have hm := ok _ (rd43_mem h1 hx)
    rw [drop43 h1 hx]
    simp only [tier_Grains.l0]
    rw [if_pos hx, if_pos h1, if_pos hx]
    generalize rd_T43 l x = s at hm ⊢
    obtain ⟨o1, o2⟩ := hm
    have o1' := o1
    have o2' := o2
    unfold okI at o1' o2'
    simp only [tier_Grains.j2]
    by_cases b1 : s.f0 < 0
    · simp [b1, badS]
    rw [if_neg b1]
    by_cases b2 : s.f1 < 0
    · simp [b2, badS]
    rw [if_neg b2]
    by_cases b3 : s.f1 > 1000000
    · simp [b3, badS]
    have hb : badS s = false := by simp [badS, b1, b2, b3]
    have hany : (s :: l.drop (x + 1).toNat).any badS = (l.drop (x + 1).toNat).any badS := by rw [List.any_cons, hb, Bool.false_or]
    rw [if_neg (by simpa using b3), hany]
    obtain ⟨⟨g1, g2⟩, g3, g4⟩ := gterm (a := s.f0) (b := s.f1) (by omega) (by omega) (by omega) (by omega) hw
    have f1 : fits (s.f0 * s.f1) := by unfold fits; omega
    have f2 : fits (s.f0 * s.f1 * w) := by unfold fits; omega
    have f0 : fits A := by unfold fits; omega
    have f3 : fits (A + s.f0 * s.f1 * w) := by unfold fits; omega
    rw [wide_Mul_eq o1 o2]
    simp only [Option.bind_some]
    rw [wide_Scale_eq (by omega) (okW_of_fits f1) (by unfold okI; omega), val_hi_lo, out_fits f2]
    simp only [Option.bind_some]
    rw [wide_Add_eq (okW_of_fits f0) (okW_of_fits f2), val_hi_lo, val_hi_lo, out_fits f3]
    simp only [Option.bind_some]
    rw [w64 (by omega) (by omega), ih k (x + 1) _ (by omega) (by omega) (by omega) (by omega) (by omega) (by omega)]
    simp only [sumG, Int.add_assoc]
/-- what Grains gives -/
def grainsB (l : List S43) (w : Int) : Int × Int × Int := if l.length > 6 then (0, 0, 5) else if (w < 0 ∨ w > 6412320000) ∨ l.any badS = true then (0, 0, 1) else (hi (sumG w l), lo (sumG w l), 0)
theorem tier_Grains_eq {k : Nat} {l : List S43} {w : Int} (hk : 30 ≤ k) (ok : ∀ s ∈ l, okS s) : tier_Grains.f k l w = some (grainsB l w) := by
  obtain ⟨k, rfl⟩ : ∃ j, k = j + 1 := ⟨k - 1, by omega⟩
  unfold tier_Grains.f grainsB
  by_cases h6 : l.length > 6
  · rw [if_pos (by omega), if_pos h6]
  rw [if_neg (by omega), if_neg h6]
  simp only [tier_Grains.j0]
  by_cases w1 : w < 0
  · simp [w1]
  rw [if_neg w1]
  by_cases w2 : w > 6412320000
  · simp [w2]
  rw [if_neg (by simpa using w2)]
  have e : tier_Grains.l0 k w l l.length 0 (hi 0) (lo 0) = _ := tier_Grains_loop (w := w) ⟨by omega, by omega⟩ l (by omega) ok (l.length - 0) k 0 0 (by omega) (by omega) (by omega) (by omega) (by omega) (by omega)
  have z1 : hi 0 = 0 := by decide
  have z2 : lo 0 = 0 := by decide
  rw [z1, z2] at e
  rw [e]
  simp only [Int.toNat_zero, List.drop_zero, Int.zero_add, w1, w2, false_or]
end Go.Proofs.Ytlmabdiodopidaa.G
end
section
set_option linter.unusedVariables false
set_option linter.unusedSimpArgs false
namespace Go.Proofs.Ytlmabdiodopidaa.G
open Go.RowKit Go.Proofs.Ytlmabdiodopidaa.P Go.Proofs.YtlmabdiodopidaaW.PrintWords
/-- a book's tier -/
def okT (t : S50) : Prop := 0 ≤ t.f0 ∧ 0 ≤ t.f1 ∧ t.f1 ≤ 1000000
/-- a part -/
def okP (n : Int) (s : S43) : Prop := 1 ≤ s.f0 ∧ s.f0 ≤ n ∧ 0 ≤ s.f1 ∧ s.f1 ≤ 1000000
theorem partsL_ok (n : Int) : ∀ l : List S50, (∀ t ∈ l, okT t) → ∀ s ∈ partsL n l, okP n s
  | [], _ => by simp [partsL]
  | [t], h => by
    have ht := h t (by simp)
    unfold okT at ht
    unfold partsL
    split
    · intro s hs
      simp only [List.mem_singleton] at hs
      subst hs
      unfold okP
      simp only
      omega
    · simp
  | t :: u :: r, h => by
    have ht := h t (by simp)
    have ih := partsL_ok n (u :: r) fun x hx => h x (by simp at hx ⊢; exact .inr hx)
    have hm := mn_le n u.f0
    unfold okT at ht
    unfold partsL
    intro s hs
    rw [List.mem_append] at hs
    rcases hs with hs | hs
    · split at hs
      · simp only [List.mem_singleton] at hs
        subst hs
        unfold okP
        simp only
        omega
      · simp at hs
    · exact ih s hs
theorem good_ok {l : List S50} (g : Good l) : ∀ t ∈ l, okT t := fun t ht => by
  have := g.ok t ht
  unfold okT
  omega
theorem rateL_ok {s : Int} : ∀ (l : List S50) (a : Int), (∀ t ∈ l, okT t) → 0 ≤ a → a ≤ 1000000 → 0 ≤ rateL s l a ∧ rateL s l a ≤ 1000000
  | [], a, _, h1, h2 => ⟨h1, h2⟩
  | t :: l, a, h, h1, h2 => by
    have ht := h t (by simp)
    unfold okT at ht
    unfold rateL
    exact rateL_ok l _ (fun x hx => h x (by simp [hx])) (by split <;> omega) (by split <;> omega)
theorem slicesB_ok {l : List S50} {m : Bool} {b : Int} (hb : okI b) : ∀ s ∈ slicesB l m b, okP (szB b) s := by
  have hz := szB_ok hb
  unfold slicesB
  split
  · simp
  · rename_i h
    have hc : checkT l = 0 := Decidable.byContradiction fun hc => h (.inl hc)
    have g := good_ok (good_of hc)
    split
    · exact partsL_ok _ l g
    · intro s hs
      simp only [List.mem_singleton] at hs
      subst hs
      have hn : szB b ≠ 0 := fun e => h (.inr (.inr e))
      have := rateL_ok (s := szB b) l 0 g (by omega) (by omega)
      unfold okP rateB
      rw [if_pos hc]
      simp only
      omega
theorem okP_S {n : Int} (hn : n ≤ 9223372036854775807) {s : S43} (h : okP n s) : okS s := by unfold okP at h; unfold okS okI; omega
end Go.Proofs.Ytlmabdiodopidaa.G
end
section
set_option linter.unusedVariables false
set_option linter.unusedSimpArgs false
namespace Go.Proofs.Ytlmabdiodopidaa.G
open Go.RowKit Go.Proofs.Ytlmabdiodopidaa.P Go.Proofs.YtlmabdiodopidaaW.PrintWords

theorem ref_size_eq {n : Int} (h : okI n) : corebankref01_size.f n = some (absI n) := by
  unfold okI at h
  unfold corebankref01_size.f absI
  split
  · rw [not64_eq (by simp only [IntKind.wrap_u64]; unfold okU; omega)]
    simp only [IntKind.wrap_u64, Option.some.injEq]; omega
  · simp only [IntKind.wrap_u64, Option.some.injEq]; omega
theorem ref_Split_eq {a b : Int} (h : okW a b) : corebankref01_Split.f a b = some (decide (val a b < 0), hi (absI (val a b)), lo (absI (val a b))) := by
  have hs := val_neg_iff h
  obtain ⟨⟨h1, h2⟩, h3, h4⟩ := h
  have n1 := not64_eq ⟨h3, h4⟩
  unfold corebankref01_Split.f
  rw [n1]
  by_cases ha : a ≥ 0
  · rw [if_pos ha]
    have : ¬ val a b < 0 := fun h => by have := hs.2 h; omega
    unfold absI
    rw [if_neg this]
    simp only [this, decide_false, Option.some.injEq, Prod.mk.injEq, IntKind.wrap_u64, true_and]
    unfold hi lo val
    omega
  · rw [if_neg ha]
    have hv : val a b < 0 := hs.1 (by omega)
    have n2 : not64 (IntKind.u64.wrap a) = -1 - a := by
      rw [not64_eq (by simp only [IntKind.wrap_u64]; unfold okU; omega)]
      simp only [IntKind.wrap_u64]; omega
    rw [n2]
    unfold absI
    rw [if_pos hv]
    simp only [hv, decide_true, IntKind.wrap_u64]
    unfold hi lo
    unfold val at hv ⊢
    split <;> simp only [Option.some.injEq, Prod.mk.injEq, true_and] <;> omega
theorem ref_Join_eq {a b : Int} {m : Bool} (h1 : okU a) (h2 : okU b) : ∃ x y, corebankref01_Join.f m a b = some (x, y, decide (fits (sgn m (val a b)))) ∧ (fits (sgn m (val a b)) → x = hi (sgn m (val a b)) ∧ y = lo (sgn m (val a b))) := by
  have n1 := not64_eq h1
  have n2 := not64_eq h2
  unfold okU at h1 h2
  unfold corebankref01_Join.f
  rw [n1, n2]
  cases m
  · refine ⟨_, _, by rw [if_neg (by simp)]; rw [show decide (a < 9223372036854775808) = decide (fits (sgn false (val a b))) by rw [decide_eq_decide]; unfold fits sgn val; simp; omega], ?_⟩
    intro hf
    unfold fits sgn val at hf
    unfold sgn hi lo wrap64 val
    simp at hf ⊢
    omega
  · rw [if_pos rfl]
    have key : ∀ x y : Int, ∀ c : Bool, (c = true ↔ fits (sgn true (val a b))) → (fits (sgn true (val a b)) → x = hi (sgn true (val a b)) ∧ y = lo (sgn true (val a b))) → ∃ x' y', some (x, y, c) = some (x', y', decide (fits (sgn true (val a b)))) ∧ (fits (sgn true (val a b)) → x' = hi (sgn true (val a b)) ∧ y' = lo (sgn true (val a b))) := by
      intro x y c hc hxy
      refine ⟨x, y, ?_, hxy⟩
      have : c = decide (fits (sgn true (val a b))) := by rw [Bool.eq_iff_iff, hc]; simp
      rw [this]
    have hfi : fits (sgn true (val a b)) ↔ (a < 9223372036854775808 ∨ a = 9223372036854775808 ∧ b = 0) := by unfold fits sgn val; simp; omega
    have ehi : hi (sgn true (val a b)) = if b = 0 then -a else -1 - a := by unfold hi sgn val; simp; split <;> omega
    have elo : lo (sgn true (val a b)) = if b = 0 then 0 else 18446744073709551616 - b := by unfold lo sgn val; simp; split <;> omega
    simp only [IntKind.wrap_u64]
    repeat' split
    all_goals
      refine key _ _ _ (by rw [hfi]; simp; try omega) (fun hf => ?_)
      rw [hfi] at hf
      rw [ehi, elo]
      unfold wrap64
      split <;> omega
theorem ref_Less_eq {a b c d : Int} (h1 : okU b) (h2 : okU d) : corebankref01_Less.f a b c d = some (decide (val a b < val c d)) := by
  unfold okU at h1 h2
  unfold corebankref01_Less.f val
  split
  · simp; omega
  · split <;> simp <;> omega
theorem ref_minus_eq {a b c d : Int} (h1 : okU a) (h2 : okU b) (h3 : okU c) (h4 : okU d) (h : val c d ≤ val a b) : corebankref01_minus.f a b c d = some (hi (val a b - val c d), lo (val a b - val c d)) := by
  unfold okU at h1 h2 h3 h4
  unfold val at h
  unfold corebankref01_minus.f hi lo val
  simp only [IntKind.wrap_u64]
  split <;> simp only [Option.some.injEq, Prod.mk.injEq] <;> omega
theorem sgn_fits_out {s : Int} {x y : Int} (h : fits s → x = hi s ∧ y = lo s) : (if decide (fits s) = true then some (x, y, (0 : Int)) else some (0, 0, 6)) = some (out s) := by
  unfold out
  by_cases hf : fits s
  · obtain ⟨rfl, rfl⟩ := h hf
    rw [if_pos (by simpa using hf), if_pos hf]
  · rw [if_neg (by simpa using hf), if_neg hf]
theorem ref_sum_eq {a b c d : Int} {m n : Bool} (h1 : okU a) (h2 : okU b) (h3 : okU c) (h4 : okU d) : corebankref01_sum.f m a b n c d = some (out (sgn m (val a b) + sgn n (val c d))) := by
  have p1 : 0 ≤ val a b := by unfold okU at h1 h2; unfold val; omega
  have p2 : 0 ≤ val c d := by unfold okU at h3 h4; unfold val; omega
  have q1 : val a b < 340282366920938463463374607431768211456 := by unfold okU at h1 h2; unfold val; omega
  have q2 : val c d < 340282366920938463463374607431768211456 := by unfold okU at h3 h4; unfold val; omega
  have okp : ∀ s : Int, okU (lo s) := fun s => by unfold okU lo; omega
  have okq : ∀ s : Int, 0 ≤ s → s < 340282366920938463463374607431768211456 → okU (hi s) := fun s h1 h2 => by unfold okU hi; omega
  unfold corebankref01_sum.f
  by_cases hmn : m = n
  · subst hmn
    rw [if_pos (by simp)]
    unfold corebankref01_plus.f
    rw [if_pos ⟨h1, h2, h3, h4⟩]
    simp only [Option.bind_some]
    have e : sgn m (val a b) + sgn m (val c d) = sgn m (val a b + val c d) := by unfold sgn; split <;> omega
    rw [e]
    have p3 : 0 ≤ val a b + val c d := by omega
    generalize val a b + val c d = s at *
    by_cases hs : s < 340282366920938463463374607431768211456
    · obtain ⟨x, y, hj, hxy⟩ := ref_Join_eq (m := m) (show okU (hi s % 18446744073709551616) by unfold okU; omega) (okp s)
      have e2 : val (hi s % 18446744073709551616) (lo s) = s := by
        rw [show hi s % 18446744073709551616 = hi s by unfold hi; omega]; exact val_hi_lo s
      rw [e2] at hj hxy
      rw [hj]
      simp only [Option.bind_some, hs, decide_true, if_true]
      exact sgn_fits_out hxy
    · obtain ⟨x, y, hj, _⟩ := ref_Join_eq (m := m) (show okU (hi s % 18446744073709551616) by unfold okU; omega) (okp s)
      rw [hj]
      simp only [Option.bind_some, hs, decide_false]
      unfold out
      rw [if_neg (by simp), if_neg]
      unfold fits sgn
      split <;> omega
  · rw [if_neg (by simpa using hmn)]
    rw [ref_Less_eq h2 h4]
    simp only [Option.bind_some]
    have hn : n = !m := by cases m <;> cases n <;> simp_all
    by_cases hl : val a b < val c d
    · rw [if_pos (by simpa using hl), ref_minus_eq h3 h4 h1 h2 (by omega)]
      simp only [Option.bind_some]
      obtain ⟨x, y, hj, hxy⟩ := ref_Join_eq (m := n) (okq (val c d - val a b) (by omega) (by omega)) (okp _)
      rw [val_hi_lo] at hj hxy
      rw [hj]
      simp only [Option.bind_some]
      have e : sgn m (val a b) + sgn n (val c d) = sgn n (val c d - val a b) := by subst hn; unfold sgn; cases m <;> simp <;> omega
      rw [e]
      exact sgn_fits_out hxy
    · rw [if_neg (by simpa using hl), ref_minus_eq h1 h2 h3 h4 (by omega)]
      simp only [Option.bind_some]
      obtain ⟨x, y, hj, hxy⟩ := ref_Join_eq (m := m) (okq (val a b - val c d) (by omega) (by omega)) (okp _)
      rw [val_hi_lo] at hj hxy
      rw [hj]
      simp only [Option.bind_some]
      have e : sgn m (val a b) + sgn n (val c d) = sgn m (val a b - val c d) := by subst hn; unfold sgn; cases m <;> simp <;> omega
      rw [e]
      exact sgn_fits_out hxy
theorem sgn_absI (s : Int) : sgn (decide (s < 0)) (absI s) = s := by
  unfold sgn absI
  by_cases h : s < 0 <;> simp [h]
theorem ref_Add_eq {a b c d : Int} (h1 : okW a b) (h2 : okW c d) : corebankref01_Add.f a b c d = some (out (val a b + val c d)) := by
  unfold corebankref01_Add.f
  rw [ref_Split_eq h1, ref_Split_eq h2]
  simp only [Option.bind_some]
  obtain ⟨m1, m2⟩ := mag_ok h1
  obtain ⟨m3, m4⟩ := mag_ok h2
  rw [ref_sum_eq m1 m2 m3 m4, val_hi_lo, val_hi_lo, sgn_absI, sgn_absI]
  rfl
end Go.Proofs.Ytlmabdiodopidaa.G
end
section
set_option linter.unusedVariables false
set_option linter.unusedSimpArgs false
namespace Go.Proofs.Ytlmabdiodopidaa.G
open Go.RowKit Go.Proofs.Ytlmabdiodopidaa.P Go.Proofs.YtlmabdiodopidaaW.PrintWords

theorem ref_Of_eq {n : Int} (h : okI n) : corebankref01_Of.f n = some (hi n, lo n) := by
  unfold okI at h
  unfold corebankref01_Of.f hi lo
  simp only [IntKind.wrap_u64]
  split <;> simp only [Option.some.injEq, Prod.mk.injEq, and_true] <;> omega

theorem top_bit {x : Int} (h : okU x) : (Go.bits .and .u64 x 9223372036854775808 = 0) ↔ x < 9223372036854775808 := by
  obtain ⟨h0, h1⟩ := h
  obtain ⟨n, rfl⟩ := Int.eq_ofNat_of_zero_le h0
  have hn : n < 18446744073709551616 := by omega
  have e := u64_and_nat n 9223372036854775808 hn (by decide)
  have e2 : (n &&& 9223372036854775808 = 0) ↔ n.testBit 63 = false := by
    constructor
    · intro h
      have h2 : Nat.testBit (n &&& 9223372036854775808) 63 = Nat.testBit 0 63 := by rw [h]
      rw [Nat.testBit_and, show (9223372036854775808 : Nat) = 2 ^ 63 from rfl, Nat.testBit_two_pow] at h2
      simpa using h2
    · intro h
      refine Nat.eq_of_testBit_eq fun i => ?_
      rw [Nat.testBit_and, show (9223372036854775808 : Nat) = 2 ^ 63 from rfl, Nat.testBit_two_pow]
      by_cases hi : 63 = i
      · subst hi; simp [h]
      · simp [hi]
  have e3 : n.testBit 63 = decide (n / 2 ^ 63 % 2 = 1) := Nat.testBit_eq_decide_div_mod_eq
  rw [show ((9223372036854775808 : Int)) = ((9223372036854775808 : Nat) : Int) from rfl, e]
  rw [show (((n &&& 9223372036854775808 : Nat) : Int) = 0) ↔ (n &&& 9223372036854775808 = 0) by omega, e2, e3]
  simp
  omega

/-- the product, bit by bit: what is still to come -/
def dbl (M : Int) : Nat → Int → Int → Int
  | 0, R, _ => R
  | j + 1, R, n => dbl M j (2 * R + (if n < 9223372036854775808 then 0 else M)) (2 * n % 18446744073709551616)
theorem dbl_eq (M : Int) : ∀ (j : Nat) (R n : Int), j ≤ 64 → 0 ≤ n → n < 18446744073709551616 → dbl M j R n = R * 2 ^ j + M * (n / 2 ^ (64 - j))
  | 0, R, n, _, h0, h1 => by
    simp only [dbl, Nat.sub_zero, Int.pow_zero, Int.mul_one]
    rw [show n / 2 ^ 64 = 0 by omega, Int.mul_zero, Int.add_zero]
  | j + 1, R, n, hj, h0, h1 => by
    simp only [dbl]
    rw [dbl_eq M j _ _ (by omega) (by omega) (by omega)]
    have key : n / 2 ^ (64 - (j + 1)) = (if n < 9223372036854775808 then 0 else 1) * 2 ^ j + (2 * n % 18446744073709551616) / 2 ^ (64 - j) := by
      have e : (2 : Int) ^ (64 - j) = 2 * 2 ^ (64 - (j + 1)) := by
        rw [show 64 - j = (64 - (j + 1)) + 1 by omega, Int.pow_succ, Int.mul_comm]
      have e2 : (9223372036854775808 : Int) = 2 ^ j * 2 ^ (64 - (j + 1)) := by
        rw [← Int.pow_add, show j + (64 - (j + 1)) = 63 by omega]; rfl
      have hp : (0 : Int) < 2 ^ (64 - (j + 1)) := Int.pow_pos (by decide)
      rw [e, ← Int.ediv_ediv_of_nonneg (by decide)]
      generalize (2 : Int) ^ (64 - (j + 1)) = q at *
      generalize (2 : Int) ^ j = r at *
      split
      · rw [show 2 * n % 18446744073709551616 / 2 = n by omega]; omega
      · rw [show 2 * n % 18446744073709551616 / 2 = n - 9223372036854775808 by omega, e2]
        rw [Int.one_mul, Int.sub_ediv_of_dvd _ (Int.dvd_mul_left r q), Int.mul_ediv_cancel _ (by omega)]
        omega
    rw [key, Int.pow_succ]
    generalize (2 : Int) ^ j = r
    generalize (2 * n % 18446744073709551616) / 2 ^ (64 - j) = y
    split <;> grind
theorem dbl_all (M n : Int) (h0 : 0 ≤ n) (h1 : n < 18446744073709551616) : dbl M 64 0 n = M * n := by
  rw [dbl_eq M 64 0 n (by omega) h0 h1]
  simp

theorem pair_val {a b : Int} {s : Int} (h1 : a = hi s % 18446744073709551616) (h2 : b = lo s) : val a b = s % 340282366920938463463374607431768211456 := by
  subst h1 h2; unfold val hi lo; omega
theorem ref_plus_eq {a b c d : Int} (h1 : okU a) (h2 : okU b) (h3 : okU c) (h4 : okU d) : corebankref01_plus.f a b c d = some (hi (val a b + val c d) % 18446744073709551616, lo (val a b + val c d), decide (val a b + val c d < 340282366920938463463374607431768211456)) := by
  unfold corebankref01_plus.f
  rw [if_pos ⟨h1, h2, h3, h4⟩]
theorem ref_times_loop (m0 m1 M : Int) (hm : okU m0 ∧ okU m1) (hM : val m0 m1 = M) : ∀ (j k : Nat) (R n o0 o1 : Int), j ≤ 64 → j < k → 0 ≤ R → okU n → okU o0 → okU o1 → val o0 o1 = R % 340282366920938463463374607431768211456 →
    ∃ x y : Int, corebankref01_times.l0 k n (decide (R < 340282366920938463463374607431768211456)) (64 - (j : Int)) m0 m1 o0 o1 = some (x, y, decide (dbl M j R n < 340282366920938463463374607431768211456)) ∧ okU x ∧ okU y ∧ val x y = dbl M j R n % 340282366920938463463374607431768211456
  | 0, k, R, n, o0, o1, _, hk, hR, hn, h1, h2, hv => by
    obtain ⟨k, rfl⟩ : ∃ m, k = m + 1 := ⟨k - 1, by omega⟩
    refine ⟨o0, o1, ?_, h1, h2, hv⟩
    simp only [corebankref01_times.l0]
    rw [if_neg (by omega)]
    rfl
  | j + 1, k, R, n, o0, o1, hj, hk, hR, hn, h1, h2, hv => by
    obtain ⟨k, rfl⟩ : ∃ m, k = m + 1 := ⟨k - 1, by omega⟩
    have hM0 : 0 ≤ M ∧ M < 340282366920938463463374607431768211456 := by obtain ⟨⟨a, b⟩, c, d⟩ := hm; unfold val at hM; omega
    have ov : 0 ≤ val o0 o1 ∧ val o0 o1 < 340282366920938463463374607431768211456 := by unfold okU at h1 h2; unfold val; omega
    have hn' : okU (IntKind.u64.wrap (n * 2)) := by rw [IntKind.wrap_u64]; unfold okU; omega
    have en : IntKind.u64.wrap (n * 2) = 2 * n % 18446744073709551616 := by rw [IntKind.wrap_u64, Int.mul_comm]
    have eb : wrap64 (64 - ((j + 1 : Nat) : Int) + 1) = 64 - (j : Int) := by unfold wrap64; omega
    have hF : dbl M (j + 1) R n = dbl M j (2 * R + (if n < 9223372036854775808 then 0 else M)) (IntKind.u64.wrap (n * 2)) := by rw [en]; rfl
    rw [hF]
    clear hF
    simp only [corebankref01_times.l0]
    rw [if_pos (by omega), ref_plus_eq h1 h2 h1 h2]
    simp only [Option.bind_some]
    have ku : okU (hi (val o0 o1 + val o0 o1) % 18446744073709551616) := by unfold okU; omega
    have kl : okU (lo (val o0 o1 + val o0 o1)) := by unfold okU lo; omega
    have kv := pair_val (s := val o0 o1 + val o0 o1) rfl rfl
    rw [ref_plus_eq ku kl hm.1 hm.2, hM]
    rw [kv, eb]
    simp only [Option.bind_some]
    have ku2 : ∀ s : Int, okU (hi s % 18446744073709551616) := fun s => by unfold okU; omega
    have kl2 : ∀ s : Int, okU (lo s) := fun s => by unfold okU lo; omega
    have tb := top_bit hn
    rw [hv]
    by_cases hb : n < 9223372036854775808
    · have ih := ref_times_loop m0 m1 M hm hM j k (2 * R) (IntKind.u64.wrap (n * 2)) (hi (R % 340282366920938463463374607431768211456 + R % 340282366920938463463374607431768211456) % 18446744073709551616) (lo (R % 340282366920938463463374607431768211456 + R % 340282366920938463463374607431768211456)) (by omega) (by omega) (by omega) hn' (ku2 _) (kl2 _) (by rw [pair_val rfl rfl]; omega)
      simp only [tb.2 hb, if_true, hb, Int.add_zero]
      by_cases hr : R < 340282366920938463463374607431768211456
      · simp only [hr, decide_true, if_true]
        rw [show decide (R % 340282366920938463463374607431768211456 + R % 340282366920938463463374607431768211456 < 340282366920938463463374607431768211456) = decide (2 * R < 340282366920938463463374607431768211456) by rw [decide_eq_decide]; omega]
        exact ih
      · simp only [hr, decide_false, Bool.false_eq_true, if_false]
        rw [show false = decide (2 * R < 340282366920938463463374607431768211456) by symm; rw [decide_eq_false_iff_not]; omega]
        exact ih
    · have ih := ref_times_loop m0 m1 M hm hM j k (2 * R + M) (IntKind.u64.wrap (n * 2)) (hi ((R % 340282366920938463463374607431768211456 + R % 340282366920938463463374607431768211456) % 340282366920938463463374607431768211456 + M) % 18446744073709551616) (lo ((R % 340282366920938463463374607431768211456 + R % 340282366920938463463374607431768211456) % 340282366920938463463374607431768211456 + M)) (by omega) (by omega) (by omega) hn' (ku2 _) (kl2 _) (by rw [pair_val rfl rfl]; omega)
      have tb' : ¬ (Go.bits .and .u64 n 9223372036854775808 = 0) := fun h => hb (tb.1 h)
      simp only [tb', if_false, hb]
      by_cases hr : R < 340282366920938463463374607431768211456
      · simp only [hr, decide_true, if_true]
        by_cases h2 : R % 340282366920938463463374607431768211456 + R % 340282366920938463463374607431768211456 < 340282366920938463463374607431768211456
        · simp only [h2, decide_true, if_true]
          rw [show decide ((R % 340282366920938463463374607431768211456 + R % 340282366920938463463374607431768211456) % 340282366920938463463374607431768211456 + M < 340282366920938463463374607431768211456) = decide (2 * R + M < 340282366920938463463374607431768211456) by rw [decide_eq_decide]; omega]
          exact ih
        · simp only [h2, decide_false, Bool.false_eq_true, if_false]
          rw [show false = decide (2 * R + M < 340282366920938463463374607431768211456) by symm; rw [decide_eq_false_iff_not]; omega]
          exact ih
      · simp only [hr, decide_false, Bool.false_eq_true, if_false]
        rw [show false = decide (2 * R + M < 340282366920938463463374607431768211456) by symm; rw [decide_eq_false_iff_not]; omega]
        exact ih
theorem ref_times_eq {k : Nat} {a b n : Int} (hk : 64 < k) (h1 : okU a) (h2 : okU b) (h3 : okU n) : ∃ x y : Int, corebankref01_times.f k a b n = some (x, y, decide (val a b * n < 340282366920938463463374607431768211456)) ∧ okU x ∧ okU y ∧ val x y = val a b * n % 340282366920938463463374607431768211456 := by
  obtain ⟨x, y, e, r⟩ := ref_times_loop a b (val a b) ⟨h1, h2⟩ rfl 64 k 0 n 0 0 (by omega) hk (by omega) h3 (by unfold okU; omega) (by unfold okU; omega) (by unfold val; omega)
  rw [dbl_all _ _ h3.1 h3.2] at e r
  exact ⟨x, y, e, r⟩
theorem ref_Scale_eq {k : Nat} {a b n : Int} (hk : 64 < k) (h : okW a b) (hn : okI n) : corebankref01_Scale.f k a b n = some (out (val a b * n)) := by
  unfold corebankref01_Scale.f
  rw [ref_Split_eq h, ref_size_eq hn]
  simp only [Option.bind_some]
  obtain ⟨m1, m2⟩ := mag_ok h
  obtain ⟨x, y, e, ox, oy, exy⟩ := ref_times_eq hk m1 m2 (absI_okU hn)
  rw [val_hi_lo] at e exy
  rw [e]
  simp only [Option.bind_some]
  obtain ⟨u, v, hj, huv⟩ := ref_Join_eq (m := decide (val a b < 0) != decide (n < 0)) ox oy
  rw [hj]
  simp only [Option.bind_some]
  have es := sgn_mul (val a b) n
  have z := Int.mul_nonneg (absI_nonneg (val a b)) (absI_nonneg n)
  rw [es]
  generalize (decide (val a b < 0) != decide (n < 0)) = s at *
  generalize absI (val a b) * absI n = M at *
  by_cases hM : M < 340282366920938463463374607431768211456
  · rw [if_pos (by simpa using hM)]
    rw [show val x y = M by omega] at huv ⊢
    exact sgn_fits_out huv
  · rw [if_neg (by simpa using hM)]
    unfold out
    rw [if_neg (fun hf => hM (fits_small s z hf))]
theorem okW_val {n : Int} (h : okI n) : okW (hi n) (lo n) := okW_of_fits (by unfold okI at h; unfold fits; omega)
theorem ref_Mul_eq {k : Nat} {a b : Int} (hk : 64 < k) (ha : okI a) (hb : okI b) : corebankref01_Mul.f k a b = some (hi (a * b), lo (a * b)) := by
  unfold corebankref01_Mul.f
  rw [ref_Of_eq ha]
  simp only [Option.bind_some]
  rw [ref_Scale_eq hk (okW_val ha) hb, val_hi_lo]
  unfold out
  rw [if_pos (fits_mul ha hb)]
  rfl
end Go.Proofs.Ytlmabdiodopidaa.G
end
section
set_option linter.unusedVariables false
set_option linter.unusedSimpArgs false
namespace Go.Proofs.Ytlmabdiodopidaa.G
open Go.RowKit Go.Proofs.Ytlmabdiodopidaa.P Go.Proofs.YtlmabdiodopidaaW.PrintWords
theorem ref_Grains_sum {w : Int} (hw : 0 ≤ w ∧ w ≤ 6412320000) (l : List S43) (hl : l.length ≤ 6) (ok : ∀ s ∈ l, okS s ∧ badS s = false) : ∀ (d k : Nat) (x A : Int), 0 ≤ x → x ≤ l.length → (l.length - x).toNat = d → d + 70 ≤ k → 0 ≤ A → A ≤ x * 59143212979364616009154560000000000 → corebankref14_Grains.l1 k l w x (hi A) (lo A) = some (hi (A + sumG w (l.drop x.toNat)), lo (A + sumG w (l.drop x.toNat)), 0) := by
  intro d
  induction d with
  | zero =>
    intro k x A h1 h2 hd hk hA hA'
    obtain ⟨k, rfl, _⟩ := step1 (n := 69) (by omega)
    simp only [corebankref14_Grains.l1]
    rw [if_neg (by omega), List.drop_eq_nil_of_le (by omega)]
    simp [sumG]
  | succ d ih =>
    intro k x A h1 h2 hd hk hA hA'
    obtain ⟨k, rfl, hk⟩ := step1 (n := d + 70) (by omega)
    have hx : x < l.length := by omega
    have hm := ok _ (rd43_mem h1 hx)
    rw [drop43 h1 hx]
    simp only [corebankref14_Grains.l1]
    rw [if_pos hx, if_pos h1]
    generalize rd_T43 l x = s at hm ⊢
    obtain ⟨⟨o1, o2⟩, o3⟩ := hm
    have o1' := o1
    have o2' := o2
    unfold okI at o1' o2'
    unfold badS at o3
    simp at o3
    obtain ⟨⟨g1, g2⟩, g3, g4⟩ := gterm (a := s.f0) (b := s.f1) (by omega) (by omega) (by omega) (by omega) hw
    have f1 : fits (s.f0 * s.f1) := by unfold fits; omega
    have f2 : fits (s.f0 * s.f1 * w) := by unfold fits; omega
    have f0 : fits A := by unfold fits; omega
    have f3 : fits (A + s.f0 * s.f1 * w) := by unfold fits; omega
    rw [ref_Mul_eq (by omega) o1 o2]
    simp only [Option.bind_some]
    rw [ref_Scale_eq (by omega) (okW_of_fits f1) (by unfold okI; omega), val_hi_lo, out_fits f2]
    simp only [Option.bind_some]
    rw [ref_Add_eq (okW_of_fits f0) (okW_of_fits f2), val_hi_lo, val_hi_lo, out_fits f3]
    simp only [Option.bind_some]
    rw [w64 (by omega) (by omega), ih k (x + 1) _ (by omega) (by omega) (by omega) (by omega) (by omega) (by omega)]
    simp only [sumG, Int.add_assoc]
theorem ref_Grains_all {w : Int} (l : List S43) (hl : l.length ≤ 6) (ok : ∀ s ∈ l, okS s) : ∀ (d k : Nat) (x : Int), 0 ≤ x → x ≤ l.length → (l.length - x).toNat = d → d + 90 ≤ k → (∀ i : Int, 0 ≤ i → i < x → badS (rd_T43 l i) = false) → corebankref14_Grains.l0 k l w x = some (if (w < 0 ∨ w > 6412320000) ∨ (l.drop x.toNat).any badS = true then (0, 0, 1) else (hi (sumG w l), lo (sumG w l), 0)) := by
  intro d
  induction d with
  | zero =>
    intro k x h1 h2 hd hk hs
    obtain ⟨k, rfl, _⟩ := step1 (n := 89) (by omega)
    obtain ⟨k, rfl, _⟩ := step1 (k := k) (n := 88) (by omega)
    simp only [corebankref14_Grains.l0, corebankref14_Grains.j1]
    rw [if_neg (by omega), List.drop_eq_nil_of_le (by omega)]
    by_cases w1 : w < 0
    · simp [w1]
    rw [if_neg w1]
    by_cases w2 : w > 6412320000
    · simp [w2]
    rw [if_neg (by simpa using w2)]
    have all : ∀ s ∈ l, okS s ∧ badS s = false := fun s h => by
      refine ⟨ok s h, ?_⟩
      obtain ⟨i, hi, rfl⟩ := List.mem_iff_getElem.1 h
      have := hs i (by omega) (by omega)
      unfold rd_T43 at this
      rw [List.getD_eq_getElem?_getD, Int.toNat_natCast, List.getElem?_eq_getElem hi, Option.getD_some] at this
      exact this
    have e : corebankref14_Grains.l1 k l w 0 (hi 0) (lo 0) = _ := ref_Grains_sum (w := w) ⟨by omega, by omega⟩ l hl all (l.length - 0) k 0 0 (by omega) (by omega) (by omega) (by omega) (by omega) (by omega)
    have z1 : hi 0 = 0 := by decide
    have z2 : lo 0 = 0 := by decide
    rw [z1, z2] at e
    rw [e]
    simp [w1, w2]
  | succ d ih =>
    intro k x h1 h2 hd hk hs
    obtain ⟨k, rfl, hk⟩ := step1 (n := d + 90) (by omega)
    have hx : x < l.length := by omega
    simp only [corebankref14_Grains.l0]
    rw [if_pos hx, if_pos h1, drop43 h1 hx]
    by_cases b1 : (rd_T43 l x).f0 < 0
    · simp [b1, badS]
    rw [if_neg b1]
    by_cases b2 : (rd_T43 l x).f1 < 0
    · simp [b2, badS]
    rw [if_neg b2]
    by_cases b3 : (rd_T43 l x).f1 > 1000000
    · simp [b3, badS]
    have hb : badS (rd_T43 l x) = false := by simp [badS, b1, b2, b3]
    have hany : (rd_T43 l x :: l.drop (x + 1).toNat).any badS = (l.drop (x + 1).toNat).any badS := by rw [List.any_cons, hb, Bool.false_or]
    rw [if_neg b3, hany, w64 (by omega) (by omega)]
    refine ih k (x + 1) (by omega) (by omega) (by omega) (by omega) fun i h3 h4 => ?_
    by_cases he : i = x
    · rw [he]; exact hb
    · exact hs i h3 (by omega)
theorem ref_Grains_eq {k : Nat} {l : List S43} {w : Int} (hk : 100 ≤ k) (ok : ∀ s ∈ l, okS s) : corebankref14_Grains.f k l w = some (grainsB l w) := by
  unfold corebankref14_Grains.f grainsB
  by_cases h6 : l.length > 6
  · rw [if_pos (by omega), if_pos h6]
  rw [if_neg (by omega), if_neg h6, ref_Grains_all l (by omega) ok (l.length - 0) k 0 (by omega) (by omega) (by omega) (by omega) (fun i h1 h2 => by omega)]
  simp only [Int.toNat_zero, List.drop_zero]
end Go.Proofs.Ytlmabdiodopidaa.G
end
section
set_option linter.unusedVariables false
set_option linter.unusedSimpArgs false
namespace Go.Proofs.Ytlmabdiodopidaa.G
open Go.RowKit Go.Proofs.Ytlmabdiodopidaa.P Go.Proofs.YtlmabdiodopidaaW.PrintWords
theorem grainsB_gz (l : List S43) (w : Int) : gz (grainsB l w).2.2 (grainsB l w).1 = (grainsB l w).1 ∧ gz (grainsB l w).2.2 (grainsB l w).2.1 = (grainsB l w).2.1 := by
  unfold grainsB gz
  split
  · exact ⟨rfl, rfl⟩
  · split <;> exact ⟨rfl, rfl⟩
theorem gr_both (x : Intr) {bal day : Int} (hb : okI bal) (hv : vd day = true) : ∃ wt, GrIs x bal day (grainsB (slicesB x.tiers x.marg bal) wt).1 (grainsB (slicesB x.tiers x.marg bal) wt).2.1 ∧ RGrIs x bal day (grainsB (slicesB x.tiers x.marg bal) wt).1 (grainsB (slicesB x.tiers x.marg bal) wt).2.1 := by
  obtain ⟨wt, hw⟩ := weight_both x.basis hv
  have ok : ∀ s ∈ slicesB x.tiers x.marg bal, okS s := fun s hs => okP_S (szB_ok hb).2 (slicesB_ok hb s hs)
  have z := grainsB_gz (slicesB x.tiers x.marg bal) wt
  exact ⟨wt, ⟨400, slicesB x.tiers x.marg bal, wt, (grainsB (slicesB x.tiers x.marg bal) wt).1, (grainsB (slicesB x.tiers x.marg bal) wt).2.1, (grainsB (slicesB x.tiers x.marg bal) wt).2.2, tier_Slices_eq (by omega) hb, (hw 400 (by omega)).1, tier_Grains_eq (by omega) ok, z.1.symm, z.2.symm⟩, ⟨400, slicesB x.tiers x.marg bal, wt, (grainsB (slicesB x.tiers x.marg bal) wt).2.2, ref_Slices_eq (by omega) hb, (hw 400 (by omega)).2, ref_Grains_eq (by omega) ok⟩⟩
end Go.Proofs.Ytlmabdiodopidaa.G
end
section
set_option linter.unusedVariables false
set_option linter.unusedSimpArgs false
namespace Go.Proofs.Ytlmabdiodopidaa.G
open Go.RowKit Go.Proofs.Ytlmabdiodopidaa.P Go.Proofs.YtlmabdiodopidaaW.PrintWords
theorem sumG_le {w : Int} (hw : 0 ≤ w ∧ w ≤ 6412320000) : ∀ l : List S43, (∀ s ∈ l, okS s) → l.any badS = false → 0 ≤ sumG w l ∧ sumG w l ≤ l.length * 59143212979364616009154560000000000
  | [], _, _ => by simp [sumG]
  | s :: l, h, hb => by
    rw [List.any_cons, Bool.or_eq_false_iff] at hb
    have ih := sumG_le hw l (fun x hx => h x (by simp [hx])) hb.2
    obtain ⟨o1, o2⟩ := h s (by simp)
    unfold okI at o1 o2
    have o3 := hb.1
    unfold badS at o3
    simp at o3
    obtain ⟨_, g3, g4⟩ := gterm (a := s.f0) (b := s.f1) (by omega) (by omega) (by omega) (by omega) hw
    simp only [sumG, List.length_cons]
    omega
/-- a day's interest of one side, as a number -/
def IsSum (h l S : Int) : Prop := 0 ≤ S ∧ S ≤ 354859277876187696054927360000000000 ∧ h = hi S ∧ l = lo S
theorem isSum_0 : IsSum 0 0 0 := ⟨by omega, by omega, rfl, rfl⟩
theorem grainsB_sum {l : List S43} (w : Int) (ok : ∀ s ∈ l, okS s) : ∃ S, IsSum (grainsB l w).1 (grainsB l w).2.1 S := by
  unfold grainsB
  split
  · exact ⟨0, isSum_0⟩
  · split
    · exact ⟨0, isSum_0⟩
    · rename_i h6 hb
      have hw : 0 ≤ w ∧ w ≤ 6412320000 := by
        constructor
        · by_cases h : w < 0
          · exact absurd (.inl (.inl h)) hb
          · omega
        · by_cases h : w > 6412320000
          · exact absurd (.inl (.inr h)) hb
          · omega
      have hb' : l.any badS = false := by
        cases h : l.any badS
        · rfl
        · exact absurd (.inr h) hb
      have := sumG_le hw l ok hb'
      exact ⟨sumG w l, this.1, by omega, rfl, rfl⟩
/-- what is told of a day's interest -/
def DaySd (b : Bk) (id day bal chi clo dhi dlo : Int) : Prop :=
  okI bal ∧ (∃ S, IsSum chi clo S ∧ (S = 0 ∨ 0 < bal)) ∧ (∃ S, IsSum dhi dlo S ∧ (S = 0 ∨ bal < 0)) ∧ (activeA b.accs id day = true ∨ bal = 0)
theorem dayIs_ok (b : Bk) (id : Int) {day : Int} (hv : vd day = true) : ∃ bal chi clo dhi dlo, DayIs b id day bal chi clo dhi dlo ∧ DaySd b id day bal chi clo dhi dlo := by
  unfold DayIs SideIs DaySd
  cases ha : activeA b.accs id day
  · exact ⟨0, 0, 0, 0, 0, .inl ⟨rfl, rfl, rfl, rfl, rfl, rfl⟩, by decide, ⟨0, isSum_0, .inl rfl⟩, ⟨0, isSum_0, .inl rfl⟩, .inr rfl⟩
  have hb := atF_ok id 73048 day b.jour
  cases hp : (prodA b id day).2
  · exact ⟨_, 0, 0, 0, 0, .inr ⟨rfl, rfl, .inl ⟨rfl, rfl, rfl, rfl, rfl⟩⟩, hb, ⟨0, isSum_0, .inl rfl⟩, ⟨0, isSum_0, .inl rfl⟩, .inl rfl⟩
  obtain ⟨wt, g, -⟩ := gr_both (sideP (prodA b id day).1 (atF 73048 day (mvs id b.jour))) hb hv
  obtain ⟨S, hS⟩ := grainsB_sum (l := slicesB (sideP (prodA b id day).1 (atF 73048 day (mvs id b.jour))).tiers (sideP (prodA b id day).1 (atF 73048 day (mvs id b.jour))).marg (atF 73048 day (mvs id b.jour))) wt (fun s hs => okP_S (szB_ok hb).2 (slicesB_ok hb s hs))
  rcases Int.lt_trichotomy (atF 73048 day (mvs id b.jour)) 0 with h | h | h
  · exact ⟨_, 0, 0, _, _, .inr ⟨rfl, rfl, .inr ⟨rfl, .inr (.inl ⟨h, g, rfl, rfl⟩)⟩⟩, hb, ⟨0, isSum_0, .inl rfl⟩, ⟨S, hS, .inr h⟩, .inl rfl⟩
  · exact ⟨_, 0, 0, 0, 0, .inr ⟨rfl, rfl, .inr ⟨rfl, .inr (.inr ⟨h, rfl, rfl, rfl, rfl⟩)⟩⟩, hb, ⟨0, isSum_0, .inl rfl⟩, ⟨0, isSum_0, .inl rfl⟩, .inl rfl⟩
  · exact ⟨_, _, _, 0, 0, .inr ⟨rfl, rfl, .inr ⟨rfl, .inl ⟨h, g, rfl, rfl⟩⟩⟩, hb, ⟨S, hS, .inr h⟩, ⟨0, isSum_0, .inl rfl⟩, .inl rfl⟩
end Go.Proofs.Ytlmabdiodopidaa.G
end
section
set_option linter.unusedVariables false
set_option linter.unusedSimpArgs false
namespace Go.Proofs.Ytlmabdiodopidaa.G
open Go.RowKit Go.Proofs.Ytlmabdiodopidaa.P Go.Proofs.YtlmabdiodopidaaW.PrintWords
def cS : List S66 → Int
  | [] => 0
  | x :: l => val x.f3.f0 x.f3.f1 + cS l
def dS : List S66 → Int
  | [] => 0
  | x :: l => val x.f4.f0 x.f4.f1 + dS l
/-- an accrual whose numbers are those of a day's interest -/
def okX (x : S66) : Prop := (∃ S, IsSum x.f3.f0 x.f3.f1 S) ∧ (∃ S, IsSum x.f4.f0 x.f4.f1 S)
theorem isSum_val {h l S : Int} (x : IsSum h l S) : okW h l ∧ 0 ≤ val h l ∧ val h l ≤ 354859277876187696054927360000000000 := by
  obtain ⟨h1, h2, rfl, rfl⟩ := x
  rw [val_hi_lo]
  exact ⟨okW_of_fits (by unfold fits; omega), h1, h2⟩
theorem cS_app : ∀ a b, cS (a ++ b) = cS a + cS b
  | [], b => by simp [cS]
  | x :: a, b => by rw [List.cons_append, cS, cS, cS_app a b]; omega
theorem dS_app : ∀ a b, dS (a ++ b) = dS a + dS b
  | [], b => by simp [dS]
  | x :: a, b => by rw [List.cons_append, dS, dS, dS_app a b]; omega
theorem cS_bd : ∀ l : List S66, (∀ x ∈ l, okX x) → (0 ≤ cS l ∧ cS l ≤ l.length * 354859277876187696054927360000000000) ∧ 0 ≤ dS l ∧ dS l ≤ l.length * 354859277876187696054927360000000000
  | [], _ => by simp [cS, dS]
  | x :: l, h => by
    obtain ⟨⟨S, hS⟩, ⟨T, hT⟩⟩ := h x List.mem_cons_self
    have h1 := isSum_val hS
    have h2 := isSum_val hT
    have ih := cS_bd l (fun y hy => h y (List.mem_cons_of_mem _ hy))
    simp only [cS, dS, List.length_cons]
    omega
theorem totP_sums : ∀ (l : List S66) (A D : Int), (∀ x ∈ l, okX x) → 0 ≤ A → 0 ≤ D → A + l.length * 354859277876187696054927360000000000 < 170141183460469231731687303715884105728 → D + l.length * 354859277876187696054927360000000000 < 170141183460469231731687303715884105728 →
    totP wide_Add.f l (hi A) (lo A) (hi D) (lo D) = some (hi (A + cS l), lo (A + cS l), hi (D + dS l), lo (D + dS l), 0)
  | [], A, D, _, _, _, _, _ => by simp [totP, cS, dS]
  | x :: l, A, D, h, hA, hD, bA, bD => by
    obtain ⟨⟨S, hS⟩, ⟨T, hT⟩⟩ := h x List.mem_cons_self
    have h1 := isSum_val hS
    have h2 := isSum_val hT
    simp only [List.length_cons] at bA bD
    have o1 : okW (hi A) (lo A) := okW_of_fits (by unfold fits; omega)
    have o2 : okW (hi D) (lo D) := okW_of_fits (by unfold fits; omega)
    unfold totP
    rw [wide_Add_eq o1 h1.1, wide_Add_eq o2 h2.1, val_hi_lo, val_hi_lo, out_fits (by unfold fits; omega), out_fits (by unfold fits; omega)]
    simp only [Option.bind_some]
    rw [if_pos (by simp), totP_sums l (A + val x.f3.f0 x.f3.f1) (D + val x.f4.f0 x.f4.f1) (fun y hy => h y (List.mem_cons_of_mem _ hy)) (by omega) (by omega) (by omega) (by omega), cS, dS, Int.add_assoc, Int.add_assoc]
theorem totP_0 (l : List S66) (h : ∀ x ∈ l, okX x) (hl : l.length ≤ 102) : totP wide_Add.f l 0 0 0 0 = some (hi (cS l), lo (cS l), hi (dS l), lo (dS l), 0) := by
  have := totP_sums l 0 0 h (by omega) (by omega) (by omega) (by omega)
  rw [Int.zero_add, Int.zero_add] at this
  exact this
theorem radd_ok {A B : Int} (h1 : 0 ≤ A) (h2 : 0 ≤ B) (h3 : A + B < 170141183460469231731687303715884105728) : corebankref01_Add.f (hi A) (lo A) (hi B) (lo B) = some (hi (A + B), lo (A + B), 0) := by
  rw [ref_Add_eq (okW_of_fits (by unfold fits; omega)) (okW_of_fits (by unfold fits; omega)), val_hi_lo, val_hi_lo, out_fits (by unfold fits; omega)]
/-- the day of an element -/
def DayOf (b : Bk) (id day : Int) (x : S66) : Prop := x.f0 = id ∧ x.f1 = day ∧ DayAns b id day id day x.f2 x.f3.f0 x.f3.f1 x.f4.f0 x.f4.f1 0
theorem ser_parts (b : Bk) (id f : Int) (m n : Nat) (hf : 0 ≤ f) (hf' : f ≤ 73048) (hm : m ≤ 50) (hn : n ≤ 50) :
    (∃ er, (er = 11 ∨ er = 1 ∧ 73048 < f + m + 1 + n) ∧ SerAns b id f (f + m + 1 + n) [] er) ∨
    (∃ xs : List S66, xs.length = m + 1 + (n + 1) ∧ SerAns b id f (f + m + 1 + n) xs 0 ∧ SerAns b id f (f + m) (xs.take (m + 1)) 0 ∧ SerAns b id (f + m + 1) (f + m + 1 + n) (xs.drop (m + 1)) 0 ∧ (∀ i (h : i < xs.length), DayOf b id (f + i) xs[i]) ∧ ∀ x ∈ xs, okX x) := by
  unfold SerAns
  cases hq : (findA id b.accs).2
  · exact .inl ⟨11, .inl rfl, .inl ⟨rfl, rfl, rfl⟩⟩
  by_cases ht : 73048 < f + m + 1 + n
  · refine .inl ⟨1, .inr ⟨rfl, ht⟩, .inr (.inl ⟨rfl, ?_, rfl, rfl⟩)⟩
    unfold serOk vd
    simp
    omega
  have ok : ∀ a c : Int, f ≤ a → a ≤ c → c ≤ f + m + 1 + n → serOk a c = true := fun a c h1 h2 h3 => by
    unfold serOk vd
    simp
    omega
  obtain ⟨xs, hl, hp⟩ := list_choice (P := fun i (x : S66) => IsAcc b id (f + i) x ∧ okX x) (m + 1 + (n + 1)) (fun i hi => by
    obtain ⟨bal, chi, clo, dhi, dlo, h1, -, ⟨S, hS, -⟩, ⟨T, hT, -⟩, -⟩ := dayIs_ok b id (day := f + i) (by unfold vd; simp; omega)
    exact ⟨⟨id, f + i, bal, ⟨chi, clo⟩, ⟨dhi, dlo⟩⟩, ⟨rfl, rfl, h1⟩, ⟨S, hS⟩, ⟨T, hT⟩⟩)
  have hx : ∀ i (h : i < xs.length), IsAcc b id (f + i) xs[i] ∧ okX xs[i] := fun i h => hp i _ (List.getElem?_eq_getElem h)
  refine .inr ⟨xs, hl, .inr (.inr ⟨rfl, ok _ _ (by omega) (by omega) (by omega), by omega, fun i h => (hx i h).1, rfl⟩), .inr (.inr ⟨rfl, ok _ _ (by omega) (by omega) (by omega), by rw [List.length_take]; omega, fun i h => ?_, rfl⟩), .inr (.inr ⟨rfl, ok _ _ (by omega) (by omega) (by omega), by rw [List.length_drop]; omega, fun i h => ?_, rfl⟩), fun i h => ?_, fun x hxm => ?_⟩
  · rw [List.getElem_take]
    exact (hx i _).1
  · rw [List.getElem_drop]
    have h2 : m + 1 + i < xs.length := by rw [List.length_drop] at h; omega
    have e : f + m + 1 + i = f + ((m + 1 + i : Nat) : Int) := by omega
    rw [e]
    exact (hx _ h2).1
  · obtain ⟨a, c, d⟩ := (hx i h).1
    exact ⟨a, c, .inr (.inr ⟨hq, by unfold vd; simp; omega, rfl, rfl, d, rfl⟩)⟩
  · obtain ⟨i, hi, rfl⟩ := List.mem_iff_getElem.1 hxm
    exact (hx i hi).2
end Go.Proofs.Ytlmabdiodopidaa.G
end
section
set_option linter.unusedVariables false
set_option linter.unusedSimpArgs false
namespace Go.Proofs.Ytlmabdiodopidaa.G
set_option maxRecDepth 100000
open Go.RowKit Go.Proofs.YtlmabdiodopidaaW.PrintWords Go.Proofs.YtlmabdiodopidaaW.PrintLast Go.Proofs.YtlmabdiodopidaaW.PrintMore Go.Proofs.Ytlmabdiodopidaa.P
theorem radd_any {a b c d r0 r1 r2 : Int} (h : corebankref01_Add.f a b c d = some (r0, r1, r2)) (w : World) : Calls Try.prog 28 #[.agg #[.int .i64 a, .int .u64 b], .agg #[.int .i64 c, .int .u64 d]] w fun e w' => e = .returned (.tuple #[.agg #[.int .i64 r0, .int .u64 r1], .int .i64 r2]) ∧ Below w.heap.size w w' := corebankref01_Add.calls a b c d r0 r1 r2 w h
end Go.Proofs.Ytlmabdiodopidaa.G
end
section
set_option linter.unusedVariables false
set_option linter.unusedSimpArgs false
namespace Go.Proofs.Ytlmabdiodopidaa.G
set_option maxRecDepth 100000
open Go.RowKit Go.Proofs.YtlmabdiodopidaaW.PrintWords Go.Proofs.YtlmabdiodopidaaW.PrintLast Go.Proofs.YtlmabdiodopidaaW.PrintMore Go.Proofs.Ytlmabdiodopidaa.P
set_option maxHeartbeats 4000000 in
theorem lawadd_calls (cs : List Value) (b : Bk) (id f : Int) (m n : Nat) (w0 w : World) (hb0 : Below w0.heap.size w0 w) (hk : kBk.K w0 b cs) :
    Calls Try.prog 13 #[.agg cs.toArray, .int .i64 id, .int .i64 f, .agg #[.int .u8 m, .int .u8 n]] w fun e w' => e = .returned (.bool true) ∧ Below w.heap.size w w' := by
  obtain ⟨A1, c1, A2, c2, A3, c3, hl, -, -, -, -, -, -, -, -, -⟩ := bk_get hk
  have HB0 := Aside0.mk hb0
  have HK := Aside0.mk hk
  have HL := Aside0.mk hl
  clear hb0 hk hl
  have HW := Aside0.mk (((Below.refl w.heap.size w).alloc (Nat.le_refl _) (.cells cs.toArray 63)).alloc (by simp) (.cells ([.int .u8 m, .int .u8 n] : List Value).toArray 78))
  have K0 := Aside0.mk ((Blk.new w cs 63).alloc (.cells ([.int .u8 m, .int .u8 n] : List Value).toArray 78))
  have M0 := Aside0.mk (Blk.newAt (w.alloc (.cells cs.toArray 63)) (g := w.heap.size + 1) (by simp) [.int .u8 m, .int .u8 n] 78)
  go_enter Try.func13, Try.ntmps13
  go_wp2_with (first
    | (refine ld_rng rfl 63 _ rfl (p := ⟨w.heap.size, 0, none⟩) rfl (cs := cs) K0.out.rng Try.underlying63 rfl ?_ ?_; (rw [HL.out]; kernel_rfl)))
  refine (few_calls cs b w0 _ (bstep HB0.out HW.out) HK.out).mono ?_
  rintro e w1 ⟨⟨r, rfl, hr⟩, hb1⟩
  have HR := Aside0.mk hr
  have K1 := Aside0.mk (K0.out.below hb1)
  have M1 := Aside0.mk (M0.out.below hb1)
  have HW1 := Aside0.mk (bstep HW.out hb1)
  clear hr hb1 HW K0 M0
  cases r
  · go_wp2_with (first
      | (go_at_call 30; refine (lives_calls _).mono ?_; rintro e w2 ⟨rfl, hb2⟩))
    go_ret
    exact ⟨rfl, bstep HW1.out hb2⟩
  have HF := Aside0.mk (HR.out rfl).2.2.2.1
  clear HR
  have x0 : w1.cell? ⟨w.heap.size + 1, 0, none⟩ = some (.int .u8 m) := M1.out.cell 0
  have x1 : w1.cell? ⟨w.heap.size + 1, 1, none⟩ = some (.int .u8 n) := M1.out.cell 1
  have hq : (f < 0) ∨ (0 ≤ f ∧ 73048 < f) ∨ (0 ≤ f ∧ f ≤ 73048 ∧ 50 < m) ∨ (0 ≤ f ∧ f ≤ 73048 ∧ m ≤ 50 ∧ 50 < n) ∨ (0 ≤ f ∧ f ≤ 73048 ∧ m ≤ 50 ∧ n ≤ 50) := by omega
  rcases hq with q0 | ⟨q0, q1⟩ | ⟨q0, q1, q2⟩ | ⟨q0, q1, q2, q3⟩ | ⟨q0, q1, q2, q3⟩
  case inr.inr.inr.inr =>
    have z1 : (m : Int) ≤ 50 := by omega
    have z2 : (n : Int) ≤ 50 := by omega
    go_upto_region 5 with (fail)
    clear x0 x1 M1
    rcases ser_parts b id f m n q0 q1 q2 q3 with ⟨er, her, hs⟩ | ⟨xs, hlen, hs1, hs2, hs3, hx, hok⟩
    · have H1 := Aside0.mk hs
      clear hs
      rcases her with rfl | ⟨rfl, hto⟩
      all_goals
        go_wp2_with (first
          | (refine ld_rng rfl 63 _ rfl (p := ⟨w.heap.size, 0, none⟩) rfl (cs := cs) K1.out.rng Try.underlying63 rfl ?_ ?_; (rw [HL.out]; kernel_rfl))
          | (go_at_call 33; refine (series_calls cs b id f (f + m + 1 + n) [] _ w0 _ (bstep HB0.out HW1.out) HK.out HF.out H1.out).mono ?_; rintro e w2 ⟨v, rfl, hr2, hb2⟩; obtain ⟨A4, c4, e4, -, -⟩ := Kd.R_reads hr2; subst e4; have HW2 := Aside0.mk (bstep HW1.out hb2); clear hr2 hb2)
          | (go_at_call 30; refine (lives_calls _).mono ?_; rintro e w3 ⟨rfl, hb3⟩))
        go_ret
        exact ⟨rfl, bstep HW2.out hb3⟩
    · obtain ⟨p, hp⟩ : ∃ p, p = m + 1 := ⟨_, rfl⟩
      obtain ⟨q, hq⟩ : ∃ q, q = m + 1 + (n + 1) := ⟨_, rfl⟩
      obtain ⟨r, hr⟩ : ∃ r, r = n + 1 := ⟨_, rfl⟩
      rw [← hp] at hs2 hs3
      rw [← hq] at hlen
      have H1 := Aside0.mk hs1
      have H2 := Aside0.mk hs2
      have H3 := Aside0.mk hs3
      have HX := Aside0.mk hx
      have OK := Aside0.mk hok
      have hlk : (xs.take p).length = p := by rw [List.length_take]; omega
      have hlm : (xs.drop p).length = r := by rw [List.length_drop]; omega
      have LN := Aside0.mk hlen
      have LK := Aside0.mk hlk
      have LM := Aside0.mk hlm
      have HP := Aside0.mk hp
      have HQ := Aside0.mk hq
      have HRR := Aside0.mk hr
      clear hs1 hs2 hs3 hx hok hlen hlk hlm hp hq hr
      go_upto_if 75 with (first
        | (refine ld_rng rfl 63 _ rfl (p := ⟨w.heap.size, 0, none⟩) rfl (cs := cs) K1.out.rng Try.underlying63 rfl ?_ ?_; (rw [HL.out]; kernel_rfl))
        | (go_at_call 33; refine (series_calls cs b id f (f + m + 1 + n) xs 0 w0 _ (bstep HB0.out HW1.out) HK.out HF.out H1.out).mono ?_; rintro e w2 ⟨v, rfl, hr2, hb2⟩; obtain ⟨A4, c4, e4, -, C4⟩ := Kd.R_reads hr2; rw [LN.out] at e4; subst e4; have R2 := Aside0.mk C4; have K2 := Aside0.mk (K1.out.below hb2); have HW2 := Aside0.mk (bstep HW1.out hb2); clear hr2 hb2 C4))
      go_upto_region 9 with (first
        | (refine ld_rng rfl 63 _ rfl (p := ⟨w.heap.size, 0, none⟩) rfl (cs := cs) K2.out.rng Try.underlying63 rfl ?_ ?_; (rw [HL.out]; kernel_rfl))
        | (go_at_call 33; refine (series_calls cs b id f (f + m) (xs.take p) 0 w0 _ (bstep HB0.out HW2.out) HK.out HF.out H2.out).mono ?_; rintro e w3 ⟨v, rfl, hr3, hb3⟩; obtain ⟨A5, c5, e5, -, C5⟩ := Kd.R_reads hr3; rw [LK.out] at e5; subst e5; have R3 := Aside0.mk (And.intro (Kd.C_below R2.out hb3) C5); have K3 := Aside0.mk (K2.out.below hb3); have HW3 := Aside0.mk (bstep HW2.out hb3); clear hr3 hb3 C5))
      go_upto_region 10 with (first
        | (refine ld_rng rfl 63 _ rfl (p := ⟨w.heap.size, 0, none⟩) rfl (cs := cs) K3.out.rng Try.underlying63 rfl ?_ ?_; (rw [HL.out]; kernel_rfl))
        | (go_at_call 33; refine (series_calls cs b id (f + m + 1) (f + m + 1 + n) (xs.drop p) 0 w0 _ (bstep HB0.out HW3.out) HK.out HF.out H3.out).mono ?_; rintro e w4 ⟨v, rfl, hr4, hb4⟩; obtain ⟨A6, c6, e6, -, C6⟩ := Kd.R_reads hr4; rw [LM.out] at e6; subst e6; have R4 := Aside0.mk (And.intro (Kd.C_below R3.out.1 hb4) (And.intro (Kd.C_below R3.out.2 hb4) C6)); have K4 := Aside0.mk (K3.out.below hb4); have HW4 := Aside0.mk (bstep HW3.out hb4); clear hr4 hb4 C6))
      clear K1 K2 K3 HW1 HW2 HW3 R2 R3 H1 H2 H3
      have hp : (p : Int) = m + 1 := by have := HP.out; omega
      have hq : (q : Int) = m + 1 + n + 1 := by have := HQ.out; omega
      have hr : (r : Int) = n + 1 := by have := HRR.out; omega
      go_upto_region 12 with (fail)
      clear hp hq hr
      have hq100 : q ≤ 102 := by have := HQ.out; omega
      go_wp2
      go_loopw [17] (fun i wr => ∃ x : Nat, x ≤ q ∧ i = .int .i64 x ∧ Aside0 (Below w4.heap.size w4 wr)) (fun i _ => q - (intOf i).toNat)
      case atStart => exact ⟨0, by omega, rfl, ⟨Below.refl _ _⟩⟩
      case round =>
        obtain ⟨x, k1, rfl, hB⟩ := hrel
        by_cases hlt : x < q
        · have hxl : x < xs.length := by rw [LN.out]; exact hlt
          obtain ⟨d0, d1, hd⟩ := HX.out x hxl
          have HD := Aside0.mk hd
          obtain ⟨ad, ce, hA, -, hcK, hcR⟩ := row_at R4.out.1 Go.Proofs.Ytlmabdiodopidaa.P.z66 (x : Int) (by omega) (by omega)
          rw [get_nat _ _ _ hxl] at hcK
          have hce : ce = acL id (f + x) xs[x].f2 xs[x].f3.f0 xs[x].f3.f1 xs[x].f4.f0 xs[x].f4.f1 := by rw [← d0, ← d1]; exact k66_open hcK
          subst hce
          have RL := Aside0.mk (hcR.below hB.out)
          clear hcK hcR hd
          have K5 := Aside0.mk (K4.out.below hB.out)
          have HW5 := Aside0.mk (bstep HW4.out hB.out)
          have hfx : f + x ≤ 73048 + 102 := by omega
          by_cases hx : x < p
          · have hxk : x < (xs.take p).length := by rw [LK.out]; exact hx
            obtain ⟨ad2, ce2, hA2, -, hcK2, hcR2⟩ := row_at R4.out.2.1 Go.Proofs.Ytlmabdiodopidaa.P.z66 (x : Int) (by omega) (by omega)
            rw [get_nat _ _ _ hxk, List.getElem_take] at hcK2
            have hce2 : ce2 = acL id (f + x) xs[x].f2 xs[x].f3.f0 xs[x].f3.f1 xs[x].f4.f0 xs[x].f4.f1 := by rw [← d0, ← d1]; exact k66_open hcK2
            subst hce2
            have RK := Aside0.mk (hcR2.below hB.out)
            clear hcK2 hcR2 d0 d1 hxk
            have hA' := Aside0.mk hA
            have hA2' := Aside0.mk hA2
            clear hA hA2
            generalize xs[x] = xx at *
            go_upto_region 16 with (first
              | (refine ld_rng rfl 63 _ rfl (p := ⟨w.heap.size, 0, none⟩) rfl (cs := cs) K5.out.rng Try.underlying63 rfl ?_ ?_; (rw [HL.out]; kernel_rfl))
              | (go_at_call 31; refine (day_calls cs b id (f + x) id (f + x) xx.f2 xx.f3.f0 xx.f3.f1 xx.f4.f0 xx.f4.f1 0 w0 _ (bstep HB0.out HW5.out) HK.out HF.out HD.out).mono ?_; rintro e w6 ⟨rfl, hb6⟩; have HB6 := Aside0.mk (hb6.alloc hb6.size (.cells (acL id (f + x) xx.f2 xx.f3.f0 xx.f3.f1 xx.f4.f0 xx.f4.f1).toArray 66)); clear hb6)
              | (refine st_new rfl 66 _ _ rfl rfl (cs := zAc) (vs := acL id (f + x) xx.f2 xx.f3.f0 xx.f3.f1 xx.f4.f0 xx.f4.f1) rfl rfl rfl ?_ (by simp [Value.oneCell']) ?_; kernel_rfl))
            have D6 := Aside0.mk (Blk.new w6 (acL id (f + x) xx.f2 xx.f3.f0 xx.f3.f1 xx.f4.f0 xx.f4.f1) 66)
            have HB7 := Aside0.mk (bstep hB.out HB6.out)
            have RL6 : Aside0 (Rng _ (ad.add (x * 7)) (acL id (f + x) xx.f2 xx.f3.f0 xx.f3.f1 xx.f4.f0 xx.f4.f1)) := ⟨RL.out.below HB6.out⟩
            have RK6 : Aside0 (Rng _ (ad2.add (x * 7)) (acL id (f + x) xx.f2 xx.f3.f0 xx.f3.f1 xx.f4.f0 xx.f4.f1)) := ⟨RK.out.below HB6.out⟩
            clear RL RK HB6 hB K5 HW5 HD
            generalize World.alloc w6 _ = W6 at *
            generalize w6.heap.size = g at *
            have y0 : W6.cell? ⟨g, 0, none⟩ = some (.int .i64 id) := D6.out.cell 0
            have y1 : W6.cell? ⟨g, 1, none⟩ = some (.int .i64 (f + x)) := D6.out.cell 1
            have y2 : W6.cell? ⟨g, 2, none⟩ = some (.int .i64 xx.f2) := D6.out.cell 2
            have y3 : W6.cell? ⟨g, 3, none⟩ = some (.int .i64 xx.f3.f0) := D6.out.cell 3
            have y4 : W6.cell? ⟨g, 4, none⟩ = some (.int .u64 xx.f3.f1) := D6.out.cell 4
            have y5 : W6.cell? ⟨g, 5, none⟩ = some (.int .i64 xx.f4.f0) := D6.out.cell 5
            have y6 : W6.cell? ⟨g, 6, none⟩ = some (.int .u64 xx.f4.f1) := D6.out.cell 6
            have l0 : W6.cell? (ad.add (x * 7)) = some (.int .i64 id) := RL6.out.at0 rfl
            have l1 : W6.cell? ⟨(ad.add (x * 7)).block, (ad.add (x * 7)).off + 1, none⟩ = some (.int .i64 (f + x)) := RL6.out.at_ 1 (by omega) rfl
            have l2 : W6.cell? ⟨(ad.add (x * 7)).block, (ad.add (x * 7)).off + 2, none⟩ = some (.int .i64 xx.f2) := RL6.out.at_ 2 (by omega) rfl
            have l3 : W6.cell? ⟨(ad.add (x * 7)).block, (ad.add (x * 7)).off + 3, none⟩ = some (.int .i64 xx.f3.f0) := RL6.out.at_ 3 (by omega) rfl
            have l4 : W6.cell? ⟨(ad.add (x * 7)).block, (ad.add (x * 7)).off + 4, none⟩ = some (.int .u64 xx.f3.f1) := RL6.out.at_ 4 (by omega) rfl
            have l5 : W6.cell? ⟨(ad.add (x * 7)).block, (ad.add (x * 7)).off + 5, none⟩ = some (.int .i64 xx.f4.f0) := RL6.out.at_ 5 (by omega) rfl
            have l6 : W6.cell? ⟨(ad.add (x * 7)).block, (ad.add (x * 7)).off + 6, none⟩ = some (.int .u64 xx.f4.f1) := RL6.out.at_ 6 (by omega) rfl
            have r0 : W6.cell? (ad2.add (x * 7)) = some (.int .i64 id) := RK6.out.at0 rfl
            have r1 : W6.cell? ⟨(ad2.add (x * 7)).block, (ad2.add (x * 7)).off + 1, none⟩ = some (.int .i64 (f + x)) := RK6.out.at_ 1 (by omega) rfl
            have r2 : W6.cell? ⟨(ad2.add (x * 7)).block, (ad2.add (x * 7)).off + 2, none⟩ = some (.int .i64 xx.f2) := RK6.out.at_ 2 (by omega) rfl
            have r3 : W6.cell? ⟨(ad2.add (x * 7)).block, (ad2.add (x * 7)).off + 3, none⟩ = some (.int .i64 xx.f3.f0) := RK6.out.at_ 3 (by omega) rfl
            have r4 : W6.cell? ⟨(ad2.add (x * 7)).block, (ad2.add (x * 7)).off + 4, none⟩ = some (.int .u64 xx.f3.f1) := RK6.out.at_ 4 (by omega) rfl
            have r5 : W6.cell? ⟨(ad2.add (x * 7)).block, (ad2.add (x * 7)).off + 5, none⟩ = some (.int .i64 xx.f4.f0) := RK6.out.at_ 5 (by omega) rfl
            have r6 : W6.cell? ⟨(ad2.add (x * 7)).block, (ad2.add (x * 7)).off + 6, none⟩ = some (.int .u64 xx.f4.f1) := RK6.out.at_ 6 (by omega) rfl
            clear D6 RL6 RK6
            have ea := hA'.out
            have eb := hA2'.out
            subst ea eb
            have j0 : (0 : Int) ≤ x := by omega
            have j1 : (x : Int) < q := by omega
            have j1' : decide ((x : Int) < q) = true := by simpa using hlt
            have j2 : (x : Int) < p := by omega
            have j3 : decide (x < p) = true := decide_eq_true hx
            have j4 : decide (p ≤ x) = false := decide_eq_false (by omega)
            have j5 : decide ((x : Int) < p) = true := decide_eq_true j2
            have j6 : decide ((p : Int) ≤ x) = false := decide_eq_false (by omega)
            go_quiet (fail)
            go_wp2
            go_roundw
            case rel => exact ⟨x + 1, by omega, by go_num, ⟨by first | exact HB7.out | exact pw_below_drewN HB7.out _ | exact HB7.out.drew⟩⟩
            case measure => simp [intOf]; omega
          · obtain ⟨z, hz⟩ : ∃ z : Nat, x = p + z := ⟨x - p, by omega⟩
            have hzr : z < r := by have := HP.out; have := HQ.out; have := HRR.out; omega
            have hxk : z < (xs.drop p).length := by rw [LM.out]; exact hzr
            obtain ⟨ad2, ce2, hA2, -, hcK2, hcR2⟩ := row_at R4.out.2.2 Go.Proofs.Ytlmabdiodopidaa.P.z66 (z : Int) (by omega) (by omega)
            rw [get_nat _ _ _ hxk, List.getElem_drop] at hcK2
            simp only [← hz] at hcK2
            have hce2 : ce2 = acL id (f + x) xs[x].f2 xs[x].f3.f0 xs[x].f3.f1 xs[x].f4.f0 xs[x].f4.f1 := by rw [← d0, ← d1]; exact k66_open hcK2
            subst hce2
            have RK := Aside0.mk (hcR2.below hB.out)
            clear hcK2 hcR2 d0 d1 hxk
            have hA' := Aside0.mk hA
            have hA2' := Aside0.mk hA2
            clear hA hA2
            have HZ := Aside0.mk hz
            clear hz
            generalize xs[x] = xx at *
            go_upto_region 16 with (first
              | (refine ld_rng rfl 63 _ rfl (p := ⟨w.heap.size, 0, none⟩) rfl (cs := cs) K5.out.rng Try.underlying63 rfl ?_ ?_; (rw [HL.out]; kernel_rfl))
              | (go_at_call 31; refine (day_calls cs b id (f + x) id (f + x) xx.f2 xx.f3.f0 xx.f3.f1 xx.f4.f0 xx.f4.f1 0 w0 _ (bstep HB0.out HW5.out) HK.out HF.out HD.out).mono ?_; rintro e w6 ⟨rfl, hb6⟩; have HB6 := Aside0.mk (hb6.alloc hb6.size (.cells (acL id (f + x) xx.f2 xx.f3.f0 xx.f3.f1 xx.f4.f0 xx.f4.f1).toArray 66)); clear hb6)
              | (refine st_new rfl 66 _ _ rfl rfl (cs := zAc) (vs := acL id (f + x) xx.f2 xx.f3.f0 xx.f3.f1 xx.f4.f0 xx.f4.f1) rfl rfl rfl ?_ (by simp [Value.oneCell']) ?_; kernel_rfl))
            have D6 := Aside0.mk (Blk.new w6 (acL id (f + x) xx.f2 xx.f3.f0 xx.f3.f1 xx.f4.f0 xx.f4.f1) 66)
            have HB7 := Aside0.mk (bstep hB.out HB6.out)
            have RL6 : Aside0 (Rng _ (ad.add (x * 7)) (acL id (f + x) xx.f2 xx.f3.f0 xx.f3.f1 xx.f4.f0 xx.f4.f1)) := ⟨RL.out.below HB6.out⟩
            have RK6 : Aside0 (Rng _ (ad2.add (z * 7)) (acL id (f + x) xx.f2 xx.f3.f0 xx.f3.f1 xx.f4.f0 xx.f4.f1)) := ⟨RK.out.below HB6.out⟩
            clear RL RK HB6 hB K5 HW5 HD
            generalize World.alloc w6 _ = W6 at *
            generalize w6.heap.size = g at *
            have y0 : W6.cell? ⟨g, 0, none⟩ = some (.int .i64 id) := D6.out.cell 0
            have y1 : W6.cell? ⟨g, 1, none⟩ = some (.int .i64 (f + x)) := D6.out.cell 1
            have y2 : W6.cell? ⟨g, 2, none⟩ = some (.int .i64 xx.f2) := D6.out.cell 2
            have y3 : W6.cell? ⟨g, 3, none⟩ = some (.int .i64 xx.f3.f0) := D6.out.cell 3
            have y4 : W6.cell? ⟨g, 4, none⟩ = some (.int .u64 xx.f3.f1) := D6.out.cell 4
            have y5 : W6.cell? ⟨g, 5, none⟩ = some (.int .i64 xx.f4.f0) := D6.out.cell 5
            have y6 : W6.cell? ⟨g, 6, none⟩ = some (.int .u64 xx.f4.f1) := D6.out.cell 6
            have l0 : W6.cell? (ad.add (x * 7)) = some (.int .i64 id) := RL6.out.at0 rfl
            have l1 : W6.cell? ⟨(ad.add (x * 7)).block, (ad.add (x * 7)).off + 1, none⟩ = some (.int .i64 (f + x)) := RL6.out.at_ 1 (by omega) rfl
            have l2 : W6.cell? ⟨(ad.add (x * 7)).block, (ad.add (x * 7)).off + 2, none⟩ = some (.int .i64 xx.f2) := RL6.out.at_ 2 (by omega) rfl
            have l3 : W6.cell? ⟨(ad.add (x * 7)).block, (ad.add (x * 7)).off + 3, none⟩ = some (.int .i64 xx.f3.f0) := RL6.out.at_ 3 (by omega) rfl
            have l4 : W6.cell? ⟨(ad.add (x * 7)).block, (ad.add (x * 7)).off + 4, none⟩ = some (.int .u64 xx.f3.f1) := RL6.out.at_ 4 (by omega) rfl
            have l5 : W6.cell? ⟨(ad.add (x * 7)).block, (ad.add (x * 7)).off + 5, none⟩ = some (.int .i64 xx.f4.f0) := RL6.out.at_ 5 (by omega) rfl
            have l6 : W6.cell? ⟨(ad.add (x * 7)).block, (ad.add (x * 7)).off + 6, none⟩ = some (.int .u64 xx.f4.f1) := RL6.out.at_ 6 (by omega) rfl
            have r0 : W6.cell? (ad2.add (z * 7)) = some (.int .i64 id) := RK6.out.at0 rfl
            have r1 : W6.cell? ⟨(ad2.add (z * 7)).block, (ad2.add (z * 7)).off + 1, none⟩ = some (.int .i64 (f + x)) := RK6.out.at_ 1 (by omega) rfl
            have r2 : W6.cell? ⟨(ad2.add (z * 7)).block, (ad2.add (z * 7)).off + 2, none⟩ = some (.int .i64 xx.f2) := RK6.out.at_ 2 (by omega) rfl
            have r3 : W6.cell? ⟨(ad2.add (z * 7)).block, (ad2.add (z * 7)).off + 3, none⟩ = some (.int .i64 xx.f3.f0) := RK6.out.at_ 3 (by omega) rfl
            have r4 : W6.cell? ⟨(ad2.add (z * 7)).block, (ad2.add (z * 7)).off + 4, none⟩ = some (.int .u64 xx.f3.f1) := RK6.out.at_ 4 (by omega) rfl
            have r5 : W6.cell? ⟨(ad2.add (z * 7)).block, (ad2.add (z * 7)).off + 5, none⟩ = some (.int .i64 xx.f4.f0) := RK6.out.at_ 5 (by omega) rfl
            have r6 : W6.cell? ⟨(ad2.add (z * 7)).block, (ad2.add (z * 7)).off + 6, none⟩ = some (.int .u64 xx.f4.f1) := RK6.out.at_ 6 (by omega) rfl
            clear D6 RL6 RK6
            have ea := hA'.out
            have eb := hA2'.out
            subst ea eb
            have j0 : (0 : Int) ≤ x := by omega
            have j1 : (x : Int) < q := by omega
            have j1' : decide ((x : Int) < q) = true := by simpa using hlt
            have j2 : ¬ (x : Int) < p := by omega
            have j3 : decide (x < p) = false := decide_eq_false hx
            have j4 : decide (p ≤ x) = true := decide_eq_true (by omega)
            have j5 : decide ((x : Int) < p) = false := decide_eq_false j2
            have j6 : decide ((p : Int) ≤ x) = true := decide_eq_true (by omega)
            have j7 : IntKind.i64.wrap ((x : Int) - p) = z := by rw [IntKind.wrap_i64]; have := HZ.out; omega
            have j8 : wrap64 ((x : Int) - p) = z := by have := HZ.out; unfold wrap64; omega
            have j9 : (0 : Int) ≤ z := by omega
            have j10 : (z : Int) < r := by omega
            go_quiet (fail)
            go_wp2
            go_roundw
            case rel => exact ⟨x + 1, by omega, by go_num, ⟨by first | exact HB7.out | exact pw_below_drewN HB7.out _ | exact HB7.out.drew⟩⟩
            case measure => simp [intOf]; omega
        · have hxs : ∀ z ∈ xs.take p, okX z := fun z hz => OK.out z (List.mem_of_mem_take hz)
          have hys : ∀ z ∈ xs.drop p, okX z := fun z hz => OK.out z (List.mem_of_mem_drop hz)
          have hA := (cS_bd _ hxs)
          have hB' := (cS_bd _ hys)
          have ec : cS xs = cS (xs.take p) + cS (xs.drop p) := by rw [← cS_app, List.take_append_drop]
          have ed : dS xs = dS (xs.take p) + dS (xs.drop p) := by rw [← dS_app, List.take_append_drop]
          rw [LK.out] at hA
          rw [LM.out] at hB'
          have hpq : p ≤ 102 ∧ r ≤ 102 := by have := HP.out; have := HRR.out; omega
          have TA := Aside0.mk (totP_0 xs OK.out (by rw [LN.out]; exact hq100))
          rw [ec, ed] at TA
          have TK := Aside0.mk (totP_0 (xs.take p) hxs (by rw [LK.out]; exact hpq.1))
          have TM := Aside0.mk (totP_0 (xs.drop p) hys (by rw [LM.out]; exact hpq.2))
          have RC := Aside0.mk (radd_ok (A := cS (xs.take p)) (B := cS (xs.drop p)) hA.1.1 hB'.1.1 (by have := HP.out; have := HRR.out; omega))
          have RD := Aside0.mk (radd_ok (A := dS (xs.take p)) (B := dS (xs.drop p)) hA.2.1 hB'.2.1 (by have := HP.out; have := HRR.out; omega))
          clear ec ed hA hB' hxs hys OK
          generalize cS (xs.take p) = C1 at *
          generalize cS (xs.drop p) = C2 at *
          generalize dS (xs.take p) = D1 at *
          generalize dS (xs.drop p) = D2 at *
          have HWR := Aside0.mk (bstep HW4.out hB.out)
          have CL := Aside0.mk (Kd.C_below R4.out.1 hB.out)
          have CK := Aside0.mk (Kd.C_below R4.out.2.1 hB.out)
          have CM := Aside0.mk (Kd.C_below R4.out.2.2 hB.out)
          rw [LN.out] at CL
          rw [LK.out] at CK
          rw [LM.out] at CM
          clear hB R4 K4 HW4 HX
          have tot1 : ∀ W, Below wr.heap.size wr W → Calls Try.prog 36 #[.slice A4 q c4] W fun e w' => e = .returned (.tuple #[.agg #[.int .i64 (hi (C1 + C2)), .int .u64 (lo (C1 + C2))], .agg #[.int .i64 (hi (D1 + D2)), .int .u64 (lo (D1 + D2))], .int .i64 0]) ∧ Below W.heap.size W w' := fun W h => by have := total_calls A4 c4 xs _ _ _ _ _ wr W h (by rw [LN.out]; exact CL.out) TA.out; rwa [LN.out] at this
          have tot2 : ∀ W, Below wr.heap.size wr W → Calls Try.prog 36 #[.slice A5 p c5] W fun e w' => e = .returned (.tuple #[.agg #[.int .i64 (hi C1), .int .u64 (lo C1)], .agg #[.int .i64 (hi D1), .int .u64 (lo D1)], .int .i64 0]) ∧ Below W.heap.size W w' := fun W h => by have := total_calls A5 c5 (xs.take p) _ _ _ _ _ wr W h (by rw [LK.out]; exact CK.out) TK.out; rwa [LK.out] at this
          have tot3 : ∀ W, Below wr.heap.size wr W → Calls Try.prog 36 #[.slice A6 r c6] W fun e w' => e = .returned (.tuple #[.agg #[.int .i64 (hi C2), .int .u64 (lo C2)], .agg #[.int .i64 (hi D2), .int .u64 (lo D2)], .int .i64 0]) ∧ Below W.heap.size W w' := fun W h => by have := total_calls A6 c6 (xs.drop p) _ _ _ _ _ wr W h (by rw [LM.out]; exact CM.out) TM.out; rwa [LM.out] at this
          have T1 := Aside0.mk tot1
          have T2 := Aside0.mk tot2
          have T3 := Aside0.mk tot3
          clear tot1 tot2 tot3 CL CK CM TA TK TM
          go_upto_region 19 with (first
            | (go_at_call 36; refine (T1.out _ (Below.refl _ _)).mono ?_; rintro e wa ⟨rfl, hb6⟩; have HB6 := Aside0.mk hb6; clear hb6))
          have Ha := Aside0.mk ((Blk.new wa [.int .i64 (hi (C1 + C2)), .int .u64 (lo (C1 + C2))] 35).alloc (.cells ([.int .i64 (hi (D1 + D2)), .int .u64 (lo (D1 + D2))] : List Value).toArray 35))
          have Ia := Aside0.mk (Blk.newAt (wa.alloc (.cells ([.int .i64 (hi (C1 + C2)), .int .u64 (lo (C1 + C2))] : List Value).toArray 35)) (g := wa.heap.size + 1) (by simp) [.int .i64 (hi (D1 + D2)), .int .u64 (lo (D1 + D2))] 35)
          have hbb := HB6.out
          have BBa := Aside0.mk ((hbb.alloc hbb.size (.cells ([.int .i64 (hi (C1 + C2)), .int .u64 (lo (C1 + C2))] : List Value).toArray 35)).alloc (by have := hbb.size; simp; omega) (.cells ([.int .i64 (hi (D1 + D2)), .int .u64 (lo (D1 + D2))] : List Value).toArray 35))
          clear hbb HB6
          generalize World.alloc _ _ = Wa at *
          generalize hg2 : wa.heap.size + 1 = ja at *
          generalize wa.heap.size = ia at *
          clear hg2
          go_upto_region 20 with (first
            | (go_at_call 36; refine (T2.out _ BBa.out).mono ?_; rintro e wb ⟨rfl, hb6⟩; have HB6 := Aside0.mk hb6; clear hb6))
          have NHa := Aside0.mk (((Ha.out.below HB6.out).alloc (.cells ([.int .i64 (hi (C1)), .int .u64 (lo (C1))] : List Value).toArray 35)).alloc (.cells ([.int .i64 (hi (D1)), .int .u64 (lo (D1))] : List Value).toArray 35))
          have NIa := Aside0.mk (((Ia.out.below HB6.out).alloc (.cells ([.int .i64 (hi (C1)), .int .u64 (lo (C1))] : List Value).toArray 35)).alloc (.cells ([.int .i64 (hi (D1)), .int .u64 (lo (D1))] : List Value).toArray 35))
          have Hb := Aside0.mk ((Blk.new wb [.int .i64 (hi (C1)), .int .u64 (lo (C1))] 35).alloc (.cells ([.int .i64 (hi (D1)), .int .u64 (lo (D1))] : List Value).toArray 35))
          have Ib := Aside0.mk (Blk.newAt (wb.alloc (.cells ([.int .i64 (hi (C1)), .int .u64 (lo (C1))] : List Value).toArray 35)) (g := wb.heap.size + 1) (by simp) [.int .i64 (hi (D1)), .int .u64 (lo (D1))] 35)
          have hbb := (bstep BBa.out HB6.out)
          have BBb := Aside0.mk ((hbb.alloc hbb.size (.cells ([.int .i64 (hi (C1)), .int .u64 (lo (C1))] : List Value).toArray 35)).alloc (by have := hbb.size; simp; omega) (.cells ([.int .i64 (hi (D1)), .int .u64 (lo (D1))] : List Value).toArray 35))
          clear hbb HB6 Ha Ia BBa
          generalize World.alloc _ _ = Wb at *
          generalize hg2 : wb.heap.size + 1 = jb at *
          generalize wb.heap.size = ib at *
          clear hg2
          go_upto_region 21 with (first
            | (go_at_call 36; refine (T3.out _ BBb.out).mono ?_; rintro e wc ⟨rfl, hb6⟩; have HB6 := Aside0.mk hb6; clear hb6))
          have NNHa := Aside0.mk (((NHa.out.below HB6.out).alloc (.cells ([.int .i64 (hi (C2)), .int .u64 (lo (C2))] : List Value).toArray 35)).alloc (.cells ([.int .i64 (hi (D2)), .int .u64 (lo (D2))] : List Value).toArray 35))
          have NNIa := Aside0.mk (((NIa.out.below HB6.out).alloc (.cells ([.int .i64 (hi (C2)), .int .u64 (lo (C2))] : List Value).toArray 35)).alloc (.cells ([.int .i64 (hi (D2)), .int .u64 (lo (D2))] : List Value).toArray 35))
          have NHb := Aside0.mk (((Hb.out.below HB6.out).alloc (.cells ([.int .i64 (hi (C2)), .int .u64 (lo (C2))] : List Value).toArray 35)).alloc (.cells ([.int .i64 (hi (D2)), .int .u64 (lo (D2))] : List Value).toArray 35))
          have NIb := Aside0.mk (((Ib.out.below HB6.out).alloc (.cells ([.int .i64 (hi (C2)), .int .u64 (lo (C2))] : List Value).toArray 35)).alloc (.cells ([.int .i64 (hi (D2)), .int .u64 (lo (D2))] : List Value).toArray 35))
          have Hc := Aside0.mk ((Blk.new wc [.int .i64 (hi (C2)), .int .u64 (lo (C2))] 35).alloc (.cells ([.int .i64 (hi (D2)), .int .u64 (lo (D2))] : List Value).toArray 35))
          have Ic := Aside0.mk (Blk.newAt (wc.alloc (.cells ([.int .i64 (hi (C2)), .int .u64 (lo (C2))] : List Value).toArray 35)) (g := wc.heap.size + 1) (by simp) [.int .i64 (hi (D2)), .int .u64 (lo (D2))] 35)
          have hbb := (bstep BBb.out HB6.out)
          have BBc := Aside0.mk ((hbb.alloc hbb.size (.cells ([.int .i64 (hi (C2)), .int .u64 (lo (C2))] : List Value).toArray 35)).alloc (by have := hbb.size; simp; omega) (.cells ([.int .i64 (hi (D2)), .int .u64 (lo (D2))] : List Value).toArray 35))
          clear hbb HB6 NHa NIa Hb Ib BBb
          generalize World.alloc _ _ = Wc at *
          generalize hg2 : wc.heap.size + 1 = jc at *
          generalize wc.heap.size = ic at *
          clear hg2
          have yib0 : Wc.cell? ⟨ib, 0, none⟩ = some (.int .i64 (hi (C1))) := NHb.out.cell 0
          have yib1 : Wc.cell? ⟨ib, 1, none⟩ = some (.int .u64 (lo (C1))) := NHb.out.cell 1
          have yic0 : Wc.cell? ⟨ic, 0, none⟩ = some (.int .i64 (hi (C2))) := Hc.out.cell 0
          have yic1 : Wc.cell? ⟨ic, 1, none⟩ = some (.int .u64 (lo (C2))) := Hc.out.cell 1
          go_upto_region 22 with (first
            | (go_at_call 28; refine (radd_any RC.out _).mono ?_; rintro e wd ⟨rfl, hb6⟩; have HB6 := Aside0.mk hb6; clear hb6))
          clear yib0 yib1 yic0 yic1
          have NNNHa := Aside0.mk ((NNHa.out.below HB6.out).alloc (.cells ([.int .i64 (hi (C1 + C2)), .int .u64 (lo (C1 + C2))] : List Value).toArray 35))
          have NNNIa := Aside0.mk ((NNIa.out.below HB6.out).alloc (.cells ([.int .i64 (hi (C1 + C2)), .int .u64 (lo (C1 + C2))] : List Value).toArray 35))
          have NNHb := Aside0.mk ((NHb.out.below HB6.out).alloc (.cells ([.int .i64 (hi (C1 + C2)), .int .u64 (lo (C1 + C2))] : List Value).toArray 35))
          have NNIb := Aside0.mk ((NIb.out.below HB6.out).alloc (.cells ([.int .i64 (hi (C1 + C2)), .int .u64 (lo (C1 + C2))] : List Value).toArray 35))
          have NHc := Aside0.mk ((Hc.out.below HB6.out).alloc (.cells ([.int .i64 (hi (C1 + C2)), .int .u64 (lo (C1 + C2))] : List Value).toArray 35))
          have NIc := Aside0.mk ((Ic.out.below HB6.out).alloc (.cells ([.int .i64 (hi (C1 + C2)), .int .u64 (lo (C1 + C2))] : List Value).toArray 35))
          have Hd := Aside0.mk (Blk.new wd [.int .i64 (hi (C1 + C2)), .int .u64 (lo (C1 + C2))] 35)
          have hbb := bstep BBc.out HB6.out
          have BBd := Aside0.mk (hbb.alloc hbb.size (.cells ([.int .i64 (hi (C1 + C2)), .int .u64 (lo (C1 + C2))] : List Value).toArray 35))
          clear hbb HB6 NNHa NNIa NHb NIb Hc Ic BBc
          generalize World.alloc _ _ = Wd at *
          generalize wd.heap.size = id at *
          have yjb0 : Wd.cell? ⟨jb, 0, none⟩ = some (.int .i64 (hi (D1))) := NNIb.out.cell 0
          have yjb1 : Wd.cell? ⟨jb, 1, none⟩ = some (.int .u64 (lo (D1))) := NNIb.out.cell 1
          have yjc0 : Wd.cell? ⟨jc, 0, none⟩ = some (.int .i64 (hi (D2))) := NIc.out.cell 0
          have yjc1 : Wd.cell? ⟨jc, 1, none⟩ = some (.int .u64 (lo (D2))) := NIc.out.cell 1
          go_upto_region 23 with (first
            | (go_at_call 28; refine (radd_any RD.out _).mono ?_; rintro e we ⟨rfl, hb6⟩; have HB6 := Aside0.mk hb6; clear hb6))
          clear yjb0 yjb1 yjc0 yjc1
          have NNNNHa := Aside0.mk ((NNNHa.out.below HB6.out).alloc (.cells ([.int .i64 (hi (D1 + D2)), .int .u64 (lo (D1 + D2))] : List Value).toArray 35))
          have NNNNIa := Aside0.mk ((NNNIa.out.below HB6.out).alloc (.cells ([.int .i64 (hi (D1 + D2)), .int .u64 (lo (D1 + D2))] : List Value).toArray 35))
          have NNNHb := Aside0.mk ((NNHb.out.below HB6.out).alloc (.cells ([.int .i64 (hi (D1 + D2)), .int .u64 (lo (D1 + D2))] : List Value).toArray 35))
          have NNNIb := Aside0.mk ((NNIb.out.below HB6.out).alloc (.cells ([.int .i64 (hi (D1 + D2)), .int .u64 (lo (D1 + D2))] : List Value).toArray 35))
          have NNHc := Aside0.mk ((NHc.out.below HB6.out).alloc (.cells ([.int .i64 (hi (D1 + D2)), .int .u64 (lo (D1 + D2))] : List Value).toArray 35))
          have NNIc := Aside0.mk ((NIc.out.below HB6.out).alloc (.cells ([.int .i64 (hi (D1 + D2)), .int .u64 (lo (D1 + D2))] : List Value).toArray 35))
          have NHd := Aside0.mk ((Hd.out.below HB6.out).alloc (.cells ([.int .i64 (hi (D1 + D2)), .int .u64 (lo (D1 + D2))] : List Value).toArray 35))
          have He := Aside0.mk (Blk.new we [.int .i64 (hi (D1 + D2)), .int .u64 (lo (D1 + D2))] 35)
          have hbb := bstep BBd.out HB6.out
          have BBe := Aside0.mk (hbb.alloc hbb.size (.cells ([.int .i64 (hi (D1 + D2)), .int .u64 (lo (D1 + D2))] : List Value).toArray 35))
          clear hbb HB6 NNNHa NNNIa NNHb NNIb NHc NIc Hd BBd
          generalize World.alloc _ _ = We at *
          generalize we.heap.size = ie at *
          have yia0 : We.cell? ⟨ia, 0, none⟩ = some (.int .i64 (hi (C1 + C2))) := NNNNHa.out.cell 0
          have yia1 : We.cell? ⟨ia, 1, none⟩ = some (.int .u64 (lo (C1 + C2))) := NNNNHa.out.cell 1
          have yja0 : We.cell? ⟨ja, 0, none⟩ = some (.int .i64 (hi (D1 + D2))) := NNNNIa.out.cell 0
          have yja1 : We.cell? ⟨ja, 1, none⟩ = some (.int .u64 (lo (D1 + D2))) := NNNNIa.out.cell 1
          have yid0 : We.cell? ⟨id, 0, none⟩ = some (.int .i64 (hi (C1 + C2))) := NHd.out.cell 0
          have yid1 : We.cell? ⟨id, 1, none⟩ = some (.int .u64 (lo (C1 + C2))) := NHd.out.cell 1
          have yie0 : We.cell? ⟨ie, 0, none⟩ = some (.int .i64 (hi (D1 + D2))) := He.out.cell 0
          have yie1 : We.cell? ⟨ie, 1, none⟩ = some (.int .u64 (lo (D1 + D2))) := He.out.cell 1
          go_wp2_with (first
            | (go_at_call 30; refine (lives_calls _).mono ?_; rintro e w9 ⟨rfl, hb9⟩))
          go_ret
          exact ⟨rfl, bstep HWR.out (bstep BBe.out hb9)⟩
  all_goals
    go_wp2_with (first
      | (go_at_call 30; refine (lives_calls _).mono ?_; rintro e w2 ⟨rfl, hb2⟩))
    go_ret
    exact ⟨rfl, bstep HW1.out hb2⟩
end Go.Proofs.Ytlmabdiodopidaa.G
end
