-- laid by wip/tools/pr.sh (a patched printer; Lean checks it)
import Derived.Test.YtlmabdiodopidaaSq
import Derived.Test.YtlmabdiodopidaaPx0
import Derived.Test.YtlmabdiodopidaaPx10
import Derived.Test.YtlmabdiodopidaaPx11
import Derived.Test.YtlmabdiodopidaaLeaf
namespace Go.Proofs.Ytlmabdiodopidaa.P
open Go.Proofs.Ytlmabdiodopidaa.G
attribute [local go_sem high] un_not64 un_noti run_add64
open Go.RowKit Go.Proofs.YtlmabdiodopidaaW.PrintWords Go.Proofs.YtlmabdiodopidaaW.PrintLast Go.Proofs.YtlmabdiodopidaaW.PrintMore
attribute [local go_sem] max2_int min2_int max_two min_two max_three min_three max_four min_four   -- for this text's walks alone
set_option linter.unusedVariables false
set_option linter.unusedSimpArgs false

/-! ### tier_Grains: function 24 -/
mutual
def tier_Grains.j0 : Nat → List (S43) → Int → Bool → Option (Int × Int × Int)
  | 0, _, _, _ => none
  | k + 1, x0, x1, x20 => if x20 = true then (some (0, 0, 1)) else (tier_Grains.l0 k x1 x0 (x0.length : Int) 0 0 0)
def tier_Grains.l0 : Nat → Int → List (S43) → Int → Int → Int → Int → Option (Int × Int × Int)
  | 0, _, _, _, _, _, _ => none
  | k + 1, x1, x22, x23, x24, x163000, x163001 => if x24 < x23 then (if 0 ≤ x24 then (if x24 < (x22.length : Int) then (if ((rd_T43 x22 x24).f0) < 0 then (tier_Grains.j2 k x1 x22 x23 x24 true x163000 x163001 ((rd_T43 x22 x24).f0) ((rd_T43 x22 x24).f1)) else (if ((rd_T43 x22 x24).f1) < 0 then (tier_Grains.j2 k x1 x22 x23 x24 true x163000 x163001 ((rd_T43 x22 x24).f0) ((rd_T43 x22 x24).f1)) else (tier_Grains.j2 k x1 x22 x23 x24 (decide (((rd_T43 x22 x24).f1) > 1000000)) x163000 x163001 ((rd_T43 x22 x24).f0) ((rd_T43 x22 x24).f1)))) else (none)) else (none)) else (some (x163000, x163001, 0))
def tier_Grains.j2 : Nat → Int → List (S43) → Int → Int → Bool → Int → Int → Int → Int → Option (Int × Int × Int)
  | 0, _, _, _, _, _, _, _, _, _ => none
  | k + 1, x1, x22, x23, x24, x40, x163000, x163001, x165000, x165001 => if x40 = true then (some (0, 0, 1)) else ((wide_Mul.f x165000 x165001).bind fun bt165 => ((wide_Scale.f k bt165.1 bt165.2 x1).bind fun bt167 => ((wide_Add.f x163000 x163001 bt167.1 bt167.2.1).bind fun bt171 => (tier_Grains.l0 k x1 x22 x23 (wrap64 (x24 + 1)) bt171.1 bt171.2.1))))
end
def tier_Grains.f (k : Nat) (l0 : List (S43)) (a1 : Int) : Option (Int × Int × Int) := if (l0.length : Int) > 6 then (some (0, 0, 5)) else (if a1 < 0 then (tier_Grains.j0 k l0 a1 true) else (tier_Grains.j0 k l0 a1 (decide (a1 > 6412320000))))
theorem tier_Grains.mono_l : ∀ k, (∀ y0 y1 y2, LeO (tier_Grains.j0 k y0 y1 y2) (tier_Grains.j0 (k + 1) y0 y1 y2)) ∧ (∀ y0 y1 y2 y3 y4 y5, LeO (tier_Grains.l0 k y0 y1 y2 y3 y4 y5) (tier_Grains.l0 (k + 1) y0 y1 y2 y3 y4 y5)) ∧ (∀ y0 y1 y2 y3 y4 y5 y6 y7 y8, LeO (tier_Grains.j2 k y0 y1 y2 y3 y4 y5 y6 y7 y8) (tier_Grains.j2 (k + 1) y0 y1 y2 y3 y4 y5 y6 y7 y8))
  | 0 => ⟨fun _ _ _ r h => by simp [tier_Grains.j0] at h, fun _ _ _ _ _ _ r h => by simp [tier_Grains.l0] at h, fun _ _ _ _ _ _ _ _ _ r h => by simp [tier_Grains.j2] at h⟩
  | k + 1 => by
    obtain ⟨ih0, ih1, ih2⟩ := tier_Grains.mono_l k
    refine ⟨?_, ?_, ?_⟩
    · intro y0 y1 y2
      unfold tier_Grains.j0
      repeat' first
      | (with_reducible exact ih0 _ _ _)
      | (with_reducible exact ih1 _ _ _ _ _ _)
      | (with_reducible exact ih2 _ _ _ _ _ _ _ _ _)
      | (with_reducible exact wide_Scale.mono _ _ _ _)
      | (with_reducible exact LeO.refl _)
      | (with_reducible exact LeO.none _)
      | (with_reducible refine LeO.ite ?_ ?_)
      | (with_reducible refine LeO.bind ?_ (fun _ => ?_))
      | exact ih0 _ _ _
      | exact ih1 _ _ _ _ _ _
      | exact ih2 _ _ _ _ _ _ _ _ _
      | exact wide_Scale.mono _ _ _ _
      | exact LeO.none _
      | refine LeO.ite ?_ ?_
      | refine LeO.bind ?_ (fun _ => ?_)
    · intro y0 y1 y2 y3 y4 y5
      unfold tier_Grains.l0
      repeat' first
      | (with_reducible exact ih0 _ _ _)
      | (with_reducible exact ih1 _ _ _ _ _ _)
      | (with_reducible exact ih2 _ _ _ _ _ _ _ _ _)
      | (with_reducible exact wide_Scale.mono _ _ _ _)
      | (with_reducible exact LeO.refl _)
      | (with_reducible exact LeO.none _)
      | (with_reducible refine LeO.ite ?_ ?_)
      | (with_reducible refine LeO.bind ?_ (fun _ => ?_))
      | exact ih0 _ _ _
      | exact ih1 _ _ _ _ _ _
      | exact ih2 _ _ _ _ _ _ _ _ _
      | exact wide_Scale.mono _ _ _ _
      | exact LeO.none _
      | refine LeO.ite ?_ ?_
      | refine LeO.bind ?_ (fun _ => ?_)
    · intro y0 y1 y2 y3 y4 y5 y6 y7 y8
      unfold tier_Grains.j2
      repeat' first
      | (with_reducible exact ih0 _ _ _)
      | (with_reducible exact ih1 _ _ _ _ _ _)
      | (with_reducible exact ih2 _ _ _ _ _ _ _ _ _)
      | (with_reducible exact wide_Scale.mono _ _ _ _)
      | (with_reducible exact LeO.refl _)
      | (with_reducible exact LeO.none _)
      | (with_reducible refine LeO.ite ?_ ?_)
      | (with_reducible refine LeO.bind ?_ (fun _ => ?_))
      | exact ih0 _ _ _
      | exact ih1 _ _ _ _ _ _
      | exact ih2 _ _ _ _ _ _ _ _ _
      | exact wide_Scale.mono _ _ _ _
      | exact LeO.none _
      | refine LeO.ite ?_ ?_
      | refine LeO.bind ?_ (fun _ => ?_)
theorem tier_Grains.mono : ∀ a0 a1 k, LeO (tier_Grains.f k a0 a1) (tier_Grains.f (k + 1) a0 a1) := by
  intro a0 a1 k
  obtain ⟨ih0, ih1, ih2⟩ := tier_Grains.mono_l k
  unfold tier_Grains.f
  repeat' first
      | (with_reducible exact ih0 _ _ _)
      | (with_reducible exact ih1 _ _ _ _ _ _)
      | (with_reducible exact ih2 _ _ _ _ _ _ _ _ _)
      | (with_reducible exact wide_Scale.mono _ _ _ _)
      | (with_reducible exact LeO.refl _)
      | (with_reducible exact LeO.none _)
      | (with_reducible refine LeO.ite ?_ ?_)
      | (with_reducible refine LeO.bind ?_ (fun _ => ?_))
      | exact ih0 _ _ _
      | exact ih1 _ _ _ _ _ _
      | exact ih2 _ _ _ _ _ _ _ _ _
      | exact wide_Scale.mono _ _ _ _
      | exact LeO.none _
      | refine LeO.ite ?_ ?_
      | refine LeO.bind ?_ (fun _ => ?_)
set_option maxHeartbeats 8000000 in
set_option maxRecDepth 100000 in
theorem tier_Grains.calls (k : Nat) (A0 : Option Addr) (c0 : Nat) (l0 : List (S43)) (a1 : Int) (r1 : Int) (r2 : Int) (r3 : Int) (w : World) (hr0 : Kd.C k43 w A0 l0.length l0) (hc0 : l0.length ≤ c0) (h : tier_Grains.f k l0 a1 = some (r1, r2, r3)) :
    Calls Try.prog 24 #[.slice A0 l0.length c0, .int .i64 a1] w fun e w' => e = .returned (.tuple #[.agg #[.int .i64 r1, .int .u64 r2], .int .i64 r3]) ∧ Below w.heap.size w w' := by
  have hu35 := Try.underlying35
  have hu43 := Try.underlying43
  have HR0 := Aside0.mk hr0
  have HC0 := Aside0.mk hc0
  clear hr0 hc0
  have HB := Aside0.mk (Below.refl w.heap.size w)
  have H : (if (l0.length : Int) > 6 then (some (0, 0, 5)) else (if a1 < 0 then (tier_Grains.j0 k l0 a1 true) else (tier_Grains.j0 k l0 a1 (decide (a1 > 6412320000))))) = some (r1, r2, r3) := h
  clear h
  by_cases c3 : (l0.length : Int) > 6
  · rw [if_pos c3] at H
    have c3b0 : decide (6 < (l0.length : Int)) = true := decide_eq_true c3
    have c3b1 : decide (6 < l0.length) = true := decide_eq_true (by omega)
    clear c3
    simp only [Option.some.injEq, Prod.mk.injEq] at H
    obtain ⟨rfl, rfl, rfl⟩ := H
    go_enter Try.func24, Try.ntmps24
    go_wp2_with (first | ((with_reducible refine gate_dst (N := 4) rfl ?_); refine box_event ?hg (N := 4) ?hd (cs := #[.int .i64 0, .int .u64 0]) (t := 35) ?hr ?_; (case hd => rfl); (case hg => rfl); (case hr => first | (go_simp; done) | (go_simp; rfl)); intro gb161 hg w4 hbox hb; have BK161 := Aside0.mk (hbox); have GW161 := ge HB hg; have GE161 := ge HB hg; replace HB := bs HB hb; clear hb hbox hg; obtain ⟨hcz5_0, hcz5_1, hfz5_0, hfz5_1⟩ := cz2 BK161))
    refine bodyPost_ret (results_ct rfl _ _ gb161 35 #[.int .i64 0, .int .u64 0] (0, 0) _ rfl (bp BK161) Try.underlying35 rfl (by kernel_rfl)) rfl ?_
    exact ⟨by first | rfl | (simp [errW_none, errW_some] <;> rfl) | (simp [*, errW_none, errW_some] <;> rfl), hq HB⟩
  · rw [if_neg c3] at H
    have c3b0 : decide (6 < (l0.length : Int)) = false := decide_eq_false c3
    have c3b1 : decide (6 < l0.length) = false := decide_eq_false (by omega)
    clear c3
    have HC6 := Aside0.mk H
    clear H
    go_enter Try.func24, Try.ntmps24
    go_upto_region 3 with (first | ((with_reducible refine gate_dst (N := 4) rfl ?_); refine box_event ?hg (N := 4) ?hd (cs := #[.int .i64 0, .int .u64 0]) (t := 35) ?hr ?_; (case hd => rfl); (case hg => rfl); (case hr => first | (go_simp; done) | (go_simp; rfl)); intro gb161 hg w7 hbox hb; have BK161 := Aside0.mk (hbox); have GW161 := ge HB hg; have GE161 := ge HB hg; replace HB := bs HB hb; clear hb hbox hg))
    (try simp only [Act.put, List.setIfInBounds_toArray, List.set_cons_zero, List.set_cons_succ])
    go_cut [20] (fun v20 wc => ∃ (kq : Nat) (x20_5 : Bool), v20 = .bool x20_5 ∧ Aside0 (tier_Grains.j0 kq l0 a1 x20_5 = some (r1, r2, r3)) ∧ Aside0 (kq ≤ k) ∧ Aside0 (wc.heap[gb161]? = some (.cells #[.int .i64 0, .int .u64 0] 35 (0, 0))) ∧ Aside0 (Below w.heap.size w wc))
    case first =>
      have H := HC6.out
      clear HC6
      by_cases c8 : a1 < 0
      · rw [if_pos c8] at H
        have c8b0 : decide (a1 < 0) = true := decide_eq_true c8
        clear c8
        (first | rw [c8b0] | (simp only [i64_w, i32_w]; rw [c8b0]) | skip)
        have H' := Aside0.mk H
        clear H
        go_wp2
        go_meet
        case rel => exact ⟨_, (true), (by first | rfl | (simp; done) | (simp [*]; done)), H', ⟨by first | omega | exact Nat.le_refl _⟩, ⟨bq BK161⟩, ⟨hq HB⟩⟩
      · rw [if_neg c8] at H
        have c8b0 : decide (a1 < 0) = false := decide_eq_false c8
        clear c8
        (first | rw [c8b0] | (simp only [i64_w, i32_w]; rw [c8b0]) | skip)
        have H' := Aside0.mk H
        clear H
        go_wp2
        go_meet
        case rel => exact ⟨_, (decide (a1 > 6412320000)), (by first | rfl | (simp; done) | (simp [*]; done)), H', ⟨by first | omega | exact Nat.le_refl _⟩, ⟨bq BK161⟩, ⟨hq HB⟩⟩
    case rest =>
      clear HC6
      try clear c2
      try clear p2
      try clear c3
      try clear c3b0
      try clear c3b1
      try clear c8
      try clear c8b0
      try clear hcz5_0
      try clear hcz5_1
      try clear hfz5_0
      try clear hfz5_1
      obtain ⟨kq, x20_5, rfl, HA, HJ5, BK161, HB⟩ := hcut
      cases kq with
      | zero => exact absurd HA.out (by simp [tier_Grains.j0])
      | succ kj5 =>
        have H := HA.out
        clear HA
        simp only [tier_Grains.j0] at H
        by_cases c9 : x20_5 = true
        · subst c9
          have H1 : (some (0, 0, 1)) = some (r1, r2, r3) := by rw [if_pos rfl] at H; exact H
          clear H
          have H := H1
          clear H1
          simp only [Option.some.injEq, Prod.mk.injEq] at H
          obtain ⟨rfl, rfl, rfl⟩ := H
          obtain ⟨hcz10_0, hcz10_1, hfz10_0, hfz10_1⟩ := cz2 BK161
          go_wp2
          refine bodyPost_ret (results_ct rfl _ _ gb161 35 #[.int .i64 0, .int .u64 0] (0, 0) _ rfl (bp BK161) Try.underlying35 rfl (by kernel_rfl)) rfl ?_
          exact ⟨by first | rfl | (simp [errW_none, errW_some] <;> rfl) | (simp [*, errW_none, errW_some] <;> rfl), hq HB⟩
        · replace c9 := Bool.eq_false_iff.mpr c9
          subst c9
          have H1 : (tier_Grains.l0 kj5 a1 l0 (l0.length : Int) 0 0 0) = some (r1, r2, r3) := by rw [if_neg (show ¬ (false = true) by decide)] at H; exact H
          clear H
          have H := H1
          clear H1
          have H' := Aside0.mk H
          clear H
          go_wp2_with (first | ((with_reducible refine gate_dst (N := 6) rfl ?_); refine box_event ?hg (N := 6) ?hd (cs := #[.int .i64 0, .int .u64 0]) (t := 35) ?hr ?_; (case hd => rfl); (case hg => rfl); (case hr => first | (go_simp; done) | (go_simp; rfl)); intro gb162 hg w11 hbox hb; have BK162 := Aside0.mk (hbox); have GW162 := ge HB hg; have GE162 := ge HB hg; have NB161_162 := nl BK161 hg; have NB162_161 := ng NB161_162; replace BK161 := bb BK161 hb; replace HB := bs HB hb; clear hb hbox hg))
          go_loopg [24] kj5 (fun kq v24 w' => ∃ (x24_2 : Int) (x162000_2 : Int) (x162001_2 : Int) (x163000_2 : Int) (x163001_2 : Int), v24 = .int .i64 x24_2 ∧ Aside0 (tier_Grains.l0 kq a1 l0 (l0.length : Int) x24_2 x163000_2 x163001_2 = some (r1, r2, r3)) ∧ Aside0 (kq ≤ kj5) ∧ Aside0 (w'.heap[gb161]? = some (.cells #[.int .i64 x162000_2, .int .u64 x162001_2] 35 (0, 0))) ∧ Aside0 (w'.heap[gb162]? = some (.cells #[.int .i64 x163000_2, .int .u64 x163001_2] 35 (0, 0))) ∧ Aside0 (Below w.heap.size w w'))
          case atStart => exact ⟨(0), (0), (0), (0), (0), (by first | rfl | (simp; done) | (simp [*]; done)), H', ⟨Nat.le_refl _⟩, ⟨bq BK161⟩, ⟨bq BK162⟩, ⟨hq HB⟩⟩
          case round =>
            clear H'
            try clear c2
            try clear p2
            try clear c3
            try clear c3b0
            try clear c3b1
            try clear c8
            try clear c8b0
            try clear c9
            try clear hcz10_0
            try clear hcz10_1
            try clear hcz5_0
            try clear hcz5_1
            try clear hfz10_0
            try clear hfz10_1
            try clear hfz5_0
            try clear hfz5_1
            try clear p2
            obtain ⟨x24_2, x162000_2, x162001_2, x163000_2, x163001_2, rfl, HA, HK2, BK161, BK162, HB⟩ := hrel
            cases gk with
            | zero => exact absurd HA.out (by simp [tier_Grains.l0])
            | succ k2 =>
              have H := HA.out
              clear HA
              simp only [tier_Grains.l0] at H
              by_cases c12 : x24_2 < (l0.length : Int)
              · rw [if_pos c12] at H
                have c12b0 : decide (x24_2 < (l0.length : Int)) = true := decide_eq_true c12
                clear c12
                by_cases c13 : 0 ≤ x24_2
                · rw [if_pos c13] at H
                  have c13b0 : decide (0 ≤ x24_2) = true := decide_eq_true c13
                  clear c13
                  by_cases c14 : x24_2 < (l0.length : Int)
                  · rw [if_pos c14] at H
                    have c14b0 : decide (x24_2 < (l0.length : Int)) = true := decide_eq_true c14
                    clear c14
                    have HC15 := Aside0.mk H
                    clear H
                    have p163 : 0 ≤ (x24_2 : Int) := of_decide_eq_true (by first | (with_reducible assumption) | assumption)
                    have q163 : x24_2 < (l0.length : Int) := of_decide_eq_true (by first | (with_reducible assumption) | assumption)
                    obtain ⟨ad163, e163, hx163_0, hx163_1⟩ := at_T43 HR0.out x24_2 p163 q163
                    cases e163
                    replace hx163_0 := (HB.out.cell (World.block_lt_of_cell? w _ hx163_0)).trans hx163_0
                    replace hx163_1 := (HB.out.cell (World.block_lt_of_cell? w _ hx163_1)).trans hx163_1
                    replace p163 := eq_true p163
                    replace q163 := eq_true q163
                    go_upto_region 9 with (first | ((with_reducible refine gate_dst (N := 8) rfl ?_); refine box_event ?hg (N := 8) ?hd (cs := #[.int .i64 0, .int .i64 0]) (t := 43) ?hr ?_; (case hd => rfl); (case hg => rfl); (case hr => first | (go_simp; done) | (go_simp; rfl)); intro gb164 hg w16 hbox hb; have BK164 := Aside0.mk (hbox); have GW164 := ge HB hg; have GE164 := ge HB hg; have NB161_164 := nl BK161 hg; have NB164_161 := ng NB161_164; have NB162_164 := nl BK162 hg; have NB164_162 := ng NB162_164; replace BK161 := bb BK161 hb; replace BK162 := bb BK162 hb; replace HB := bs HB hb; clear hb hbox hg; have hnb17 := NB164_161.out; have hnc17 := NB161_164.out; have hnb18 := NB164_162.out; have hnc18 := NB162_164.out; obtain ⟨hcz19_0, hcz19_1, hfz19_0, hfz19_1⟩ := cz2 BK164))
                    (try simp only [Act.put, List.setIfInBounds_toArray, List.set_cons_zero, List.set_cons_succ])
                    go_cut [40] (fun v40 wc => ∃ (kq : Nat) (x40_14 : Bool), v40 = .bool x40_14 ∧ Aside0 (tier_Grains.j2 kq a1 l0 (l0.length : Int) x24_2 x40_14 x163000_2 x163001_2 ((rd_T43 l0 x24_2).f0) ((rd_T43 l0 x24_2).f1) = some (r1, r2, r3)) ∧ Aside0 (kq ≤ k2) ∧ Aside0 (wc.heap[gb161]? = some (.cells #[.int .i64 x162000_2, .int .u64 x162001_2] 35 (0, 0))) ∧ Aside0 (wc.heap[gb162]? = some (.cells #[.int .i64 x163000_2, .int .u64 x163001_2] 35 (0, 0))) ∧ Aside0 (wc.heap[gb164]? = some (.cells #[.int .i64 ((rd_T43 l0 x24_2).f0), .int .i64 ((rd_T43 l0 x24_2).f1)] 43 (0, 0))) ∧ Aside0 (Below w.heap.size w wc))
                    case first =>
                      have H := HC15.out
                      clear HC15
                      by_cases c20 : ((rd_T43 l0 x24_2).f0) < 0
                      · rw [if_pos c20] at H
                        have c20b0 : decide (((rd_T43 l0 x24_2).f0) < 0) = true := decide_eq_true c20
                        clear c20
                        (first | rw [c20b0] | (simp only [i64_w, i32_w]; rw [c20b0]) | skip)
                        have H' := Aside0.mk H
                        clear H
                        have hnb21 := NB164_161.out
                        have hnc21 := NB161_164.out
                        have hnb22 := NB164_162.out
                        have hnc22 := NB162_164.out
                        obtain ⟨hcz23_0, hcz23_1, hfz23_0, hfz23_1⟩ := cz2 BK164
                        go_wp2
                        go_meet
                        case rel => exact ⟨_, (true), (by first | rfl | (simp; done) | (simp [*]; done)), H', ⟨by have := HJ5.out; have := HK2.out; first | omega | exact Nat.le_refl _⟩, ⟨bq BK161⟩, ⟨bq BK162⟩, ⟨bp BK164⟩, ⟨hq HB⟩⟩
                      · rw [if_neg c20] at H
                        have c20b0 : decide (((rd_T43 l0 x24_2).f0) < 0) = false := decide_eq_false c20
                        clear c20
                        (first | rw [c20b0] | (simp only [i64_w, i32_w]; rw [c20b0]) | skip)
                        by_cases c24 : ((rd_T43 l0 x24_2).f1) < 0
                        · rw [if_pos c24] at H
                          have c24b0 : decide (((rd_T43 l0 x24_2).f1) < 0) = true := decide_eq_true c24
                          clear c24
                          have H' := Aside0.mk H
                          clear H
                          have hnb25 := NB164_161.out
                          have hnc25 := NB161_164.out
                          have hnb26 := NB164_162.out
                          have hnc26 := NB162_164.out
                          obtain ⟨hcz27_0, hcz27_1, hfz27_0, hfz27_1⟩ := cz2 BK164
                          go_wp2
                          go_meet
                          case rel => exact ⟨_, (true), (by first | rfl | (simp; done) | (simp [*]; done)), H', ⟨by have := HJ5.out; have := HK2.out; first | omega | exact Nat.le_refl _⟩, ⟨bq BK161⟩, ⟨bq BK162⟩, ⟨bp BK164⟩, ⟨hq HB⟩⟩
                        · rw [if_neg c24] at H
                          have c24b0 : decide (((rd_T43 l0 x24_2).f1) < 0) = false := decide_eq_false c24
                          clear c24
                          have H' := Aside0.mk H
                          clear H
                          have hnb28 := NB164_161.out
                          have hnc28 := NB161_164.out
                          have hnb29 := NB164_162.out
                          have hnc29 := NB162_164.out
                          obtain ⟨hcz30_0, hcz30_1, hfz30_0, hfz30_1⟩ := cz2 BK164
                          go_wp2
                          go_meet
                          case rel => exact ⟨_, (decide (((rd_T43 l0 x24_2).f1) > 1000000)), (by first | rfl | (simp; done) | (simp [*]; done)), H', ⟨by have := HJ5.out; have := HK2.out; first | omega | exact Nat.le_refl _⟩, ⟨bq BK161⟩, ⟨bq BK162⟩, ⟨bp BK164⟩, ⟨hq HB⟩⟩
                    case rest =>
                      clear HC15
                      try clear c1
                      try clear p1
                      try clear q1
                      try clear hx1
                      try clear c2
                      try clear p2
                      try clear c3
                      try clear c3b0
                      try clear c3b1
                      try clear c8
                      try clear c8b0
                      try clear c9
                      try clear c12
                      try clear c12b0
                      try clear c13
                      try clear c13b0
                      try clear c14
                      try clear c14b0
                      try clear p16
                      try clear q16
                      try clear hx16
                      try clear c17
                      try clear c18
                      try clear c20
                      try clear c20b0
                      try clear c21
                      try clear c22
                      try clear c24
                      try clear c24b0
                      try clear c25
                      try clear c26
                      try clear c28
                      try clear c29
                      try clear hcz10_0
                      try clear hcz10_1
                      try clear hcz19_0
                      try clear hcz19_1
                      try clear hcz23_0
                      try clear hcz23_1
                      try clear hcz27_0
                      try clear hcz27_1
                      try clear hcz30_0
                      try clear hcz30_1
                      try clear hcz5_0
                      try clear hcz5_1
                      try clear hfz10_0
                      try clear hfz10_1
                      try clear hfz19_0
                      try clear hfz19_1
                      try clear hfz23_0
                      try clear hfz23_1
                      try clear hfz27_0
                      try clear hfz27_1
                      try clear hfz30_0
                      try clear hfz30_1
                      try clear hfz5_0
                      try clear hfz5_1
                      try clear hx163_0
                      try clear hx163_1
                      try clear p163
                      try clear p2
                      try clear q163
                      obtain ⟨kq, x40_14, rfl, HA, HJ14, BK161, BK162, BK164, HB⟩ := hcut
                      cases kq with
                      | zero => exact absurd HA.out (by simp [tier_Grains.j2])
                      | succ kj14 =>
                        have H := HA.out
                        clear HA
                        simp only [tier_Grains.j2] at H
                        by_cases c31 : x40_14 = true
                        · subst c31
                          have H1 : (some (0, 0, 1)) = some (r1, r2, r3) := by rw [if_pos rfl] at H; exact H
                          clear H
                          have H := H1
                          clear H1
                          simp only [Option.some.injEq, Prod.mk.injEq] at H
                          obtain ⟨rfl, rfl, rfl⟩ := H
                          have hnb32 := NB161_162.out
                          have hnc32 := NB162_161.out
                          have hnb33 := NB161_164.out
                          have hnc33 := NB164_161.out
                          obtain ⟨hcz34_0, hcz34_1, hfz34_0, hfz34_1⟩ := cz2 BK161
                          go_wp2
                          refine bodyPost_ret (results_ct rfl _ _ gb161 35 #[.int .i64 0, .int .u64 0] (0, 0) _ rfl (bp BK161) Try.underlying35 rfl (by kernel_rfl)) rfl ?_
                          exact ⟨by first | rfl | (simp [errW_none, errW_some] <;> rfl) | (simp [*, errW_none, errW_some] <;> rfl), hq HB⟩
                        · replace c31 := Bool.eq_false_iff.mpr c31
                          subst c31
                          have H1 : ((wide_Mul.f ((rd_T43 l0 x24_2).f0) ((rd_T43 l0 x24_2).f1)).bind fun bt165 => ((wide_Scale.f kj14 bt165.1 bt165.2 a1).bind fun bt167 => ((wide_Add.f x163000_2 x163001_2 bt167.1 bt167.2.1).bind fun bt171 => (tier_Grains.l0 kj14 a1 l0 (l0.length : Int) (wrap64 (x24_2 + 1)) bt171.1 bt171.2.1)))) = some (r1, r2, r3) := by rw [if_neg (show ¬ (false = true) by decide)] at H; exact H
                          clear H
                          have H := H1
                          clear H1
                          replace H := Option.bind_eq_some_iff.mp H
                          obtain ⟨⟨t165, t166⟩, A350, H⟩ := H
                          replace H : ((wide_Scale.f kj14 t165 t166 a1).bind fun bt167 => ((wide_Add.f x163000_2 x163001_2 bt167.1 bt167.2.1).bind fun bt171 => (tier_Grains.l0 kj14 a1 l0 (l0.length : Int) (wrap64 (x24_2 + 1)) bt171.1 bt171.2.1))) = some (r1, r2, r3) := H
                          have A35 := Aside0.mk A350
                          clear A350
                          replace H := Option.bind_eq_some_iff.mp H
                          obtain ⟨⟨t167, t168, t169⟩, A360, H⟩ := H
                          replace H : ((wide_Add.f x163000_2 x163001_2 t167 t168).bind fun bt171 => (tier_Grains.l0 kj14 a1 l0 (l0.length : Int) (wrap64 (x24_2 + 1)) bt171.1 bt171.2.1)) = some (r1, r2, r3) := H
                          have A36 := Aside0.mk A360
                          clear A360
                          replace H := Option.bind_eq_some_iff.mp H
                          obtain ⟨⟨t171, t172, t173⟩, A370, H⟩ := H
                          replace H : (tier_Grains.l0 kj14 a1 l0 (l0.length : Int) (wrap64 (x24_2 + 1)) t171 t172) = some (r1, r2, r3) := H
                          have A37 := Aside0.mk A370
                          clear A370
                          have H' := Aside0.mk H
                          clear H
                          have hnb38 := NB164_161.out
                          have hnc38 := NB161_164.out
                          have hnb39 := NB164_162.out
                          have hnc39 := NB162_164.out
                          obtain ⟨hcz40_0, hcz40_1, hfz40_0, hfz40_1⟩ := cz2 BK164
                          go_wp2_with (first | ((with_reducible refine gate_callee (f := 44) rfl ?_); refine goesL_ (some 47) rfl rfl Try.func44 (by kernel_rfl) rfl #[.int .i64 ((rd_T43 l0 x24_2).f0), .int .i64 ((rd_T43 l0 x24_2).f1)] rfl zm ?_; (with_reducible refine (wide_Mul.calls ((rd_T43 l0 x24_2).f0) ((rd_T43 l0 x24_2).f1) t165 t166 _ A35.out).mono ?_); rintro e w41 ⟨rfl, hb⟩; refine ⟨_, rfl, ?_⟩; replace BK161 := bb BK161 hb; replace BK162 := bb BK162 hb; replace BK164 := bb BK164 hb; replace HB := bs HB hb; (try clear hb); (try clear hb2); (try clear hk); (try clear hi)) | ((with_reducible refine gate_callee (f := 43) rfl ?_); refine goesL_ (some 49) rfl rfl Try.func43 (by kernel_rfl) rfl #[.agg #[.int .i64 t165, .int .u64 t166], .int .i64 a1] rfl zm ?_; (with_reducible refine (wide_Scale.calls kj14 t165 t166 a1 t167 t168 t169 _ A36.out).mono ?_); rintro e w42 ⟨rfl, hb⟩; refine ⟨_, rfl, ?_⟩; replace BK161 := bb BK161 hb; replace BK162 := bb BK162 hb; replace BK164 := bb BK164 hb; replace HB := bs HB hb; (try clear hb); (try clear hb2); (try clear hk); (try clear hi)) | ((with_reducible refine gate_dst (N := 9) rfl ?_); refine box_event ?hg (N := 9) ?hd (cs := #[.int .i64 0, .int .u64 0]) (t := 35) ?hr ?_; (case hd => rfl); (case hg => rfl); (case hr => first | (go_simp; done) | (go_simp; rfl)); intro gb170 hg w43 hbox hb; have BK170 := Aside0.mk (hbox); have GW170 := ge HB hg; have GE170 := ge HB hg; have NB161_170 := nl BK161 hg; have NB170_161 := ng NB161_170; have NB162_170 := nl BK162 hg; have NB170_162 := ng NB162_170; have NB164_170 := nl BK164 hg; have NB170_164 := ng NB164_170; replace BK161 := bb BK161 hb; replace BK162 := bb BK162 hb; replace BK164 := bb BK164 hb; replace HB := bs HB hb; clear hb hbox hg; have hnb44 := NB170_161.out; have hnc44 := NB161_170.out; have hnb45 := NB170_162.out; have hnc45 := NB162_170.out; have hnb46 := NB170_164.out; have hnc46 := NB164_170.out; obtain ⟨hcz47_0, hcz47_1, hfz47_0, hfz47_1⟩ := cz2 BK170; have hnb48 := NB162_161.out; have hnc48 := NB161_162.out; obtain ⟨hcz49_0, hcz49_1, hfz49_0, hfz49_1⟩ := cz2 BK162) | ((with_reducible refine gate_callee (f := 45) rfl ?_); refine goesL_ (some 55) rfl rfl Try.func45 (by kernel_rfl) rfl #[.agg #[.int .i64 x163000_2, .int .u64 x163001_2], .agg #[.int .i64 t167, .int .u64 t168]] rfl zm ?_; (with_reducible refine (wide_Add.calls x163000_2 x163001_2 t167 t168 t171 t172 t173 _ A37.out).mono ?_); rintro e w50 ⟨rfl, hb⟩; refine ⟨_, rfl, ?_⟩; replace BK161 := bb BK161 hb; replace BK162 := bb BK162 hb; replace BK164 := bb BK164 hb; replace BK170 := bpb BK170 hb #[.int .i64 t167, .int .u64 t168]; replace HB := bs HB hb; (try clear hb); (try clear hb2); (try clear hk); (try clear hi); obtain ⟨hcz51_0, hcz51_1, hfz51_0, hfz51_1⟩ := cz2 BK162))
                          go_roundg kj14
                          case measure => have := HJ5.out; have := HK2.out; have := HJ14.out; omega
                          case rel => exact ⟨(wrap64 (x24_2 + 1)), (x162000_2), (x162001_2), (t171), (t172), (by first | rfl | (simp; done) | (simp [*]; done)), H', ⟨by have := HJ5.out; have := HK2.out; have := HJ14.out; omega⟩, ⟨bq BK161⟩, ⟨bp BK162⟩, ⟨hq HB⟩⟩
                  · rw [if_neg c14] at H
                    exact absurd H (by simp)
                · rw [if_neg c13] at H
                  exact absurd H (by simp)
              · rw [if_neg c12] at H
                have c12b0 : decide (x24_2 < (l0.length : Int)) = false := decide_eq_false c12
                clear c12
                simp only [Option.some.injEq, Prod.mk.injEq] at H
                obtain ⟨rfl, rfl, rfl⟩ := H
                have hnb52 := NB162_161.out
                have hnc52 := NB161_162.out
                obtain ⟨hcz53_0, hcz53_1, hfz53_0, hfz53_1⟩ := cz2 BK162
                obtain ⟨hcz54_0, hcz54_1, hfz54_0, hfz54_1⟩ := cz2 BK161
                go_wp2
                refine bodyPost_ret (results_ct rfl _ _ gb161 35 #[.int .i64 x163000_2, .int .u64 x163001_2] (0, 0) _ rfl (bp BK161) Try.underlying35 rfl (by kernel_rfl)) rfl ?_
                exact ⟨by first | rfl | (simp [errW_none, errW_some] <;> rfl) | (simp [*, errW_none, errW_some] <;> rfl), hq HB⟩

end Go.Proofs.Ytlmabdiodopidaa.P
