-- laid by wip/tools/pr.sh (a patched printer; Lean checks it)
import Derived.Test.YtlmabdiodopidaaSq
import Derived.Test.YtlmabdiodopidaaPx0
import Derived.Test.YtlmabdiodopidaaPx5
import Derived.Test.YtlmabdiodopidaaPx15
namespace Go.Proofs.Ytlmabdiodopidaa.P
open Go.Proofs.Ytlmabdiodopidaa.G
attribute [local go_sem high] un_not64 un_noti run_add64
open Go.RowKit Go.Proofs.YtlmabdiodopidaaW.PrintWords Go.Proofs.YtlmabdiodopidaaW.PrintLast Go.Proofs.YtlmabdiodopidaaW.PrintMore
attribute [local go_sem] max2_int min2_int max_two min_two max_three min_three max_four min_four   -- for this text's walks alone
set_option linter.unusedVariables false
set_option linter.unusedSimpArgs false

/-! ### corebankref14_Slices: function 23 -/
mutual
def corebankref14_Slices.j0 : Nat → List (S50) → Bool → Int → List (S43) → Int → Bool → Option ((List (S43)))
  | 0, _, _, _, _, _, _ => none
  | k + 1, x0, x1, x2, x7, x8, x25 => if x25 = true then (some x7) else (if x1 = true then (corebankref14_Slices.l0 k x0 x7 x8 0) else ((corebankref14_Rate.f k x0 x2).bind fun t223 => (some (([(⟨x8, t223⟩ : S43)] : List (S43))))))
def corebankref14_Slices.l0 : Nat → List (S50) → List (S43) → Int → Int → Option ((List (S43)))
  | 0, _, _, _, _ => none
  | k + 1, x0, x7, x8, x9 => if x9 < (x0.length : Int) then (if (wrap64 (x9 + 1)) < (x0.length : Int) then (if 0 ≤ (wrap64 (x9 + 1)) then (corebankref14_Slices.j2 k x0 x7 x8 x9 x8 (decide (((rd_T50 x0 (wrap64 (x9 + 1))).f0) < x8))) else (none)) else (corebankref14_Slices.j2 k x0 x7 x8 x9 x8 false)) else (some x7)
def corebankref14_Slices.j2 : Nat → List (S50) → List (S43) → Int → Int → Int → Bool → Option ((List (S43)))
  | 0, _, _, _, _, _, _ => none
  | k + 1, x0, x7, x8, x9, x10, x56 => if x56 = true then (if 0 ≤ (wrap64 (x9 + 1)) then (if (wrap64 (x9 + 1)) < (x0.length : Int) then (if 0 ≤ x9 then (if x9 < (x0.length : Int) then (if ((rd_T50 x0 (wrap64 (x9 + 1))).f0) > ((rd_T50 x0 x9).f0) then (if x7.length < 8796093022208 then (corebankref14_Slices.l0 k x0 (x7 ++ [(⟨wrap64 (((rd_T50 x0 (wrap64 (x9 + 1))).f0) - ((rd_T50 x0 x9).f0)), (rd_T50 x0 x9).f1⟩ : S43)]) x8 (wrap64 (x9 + 1))) else (none)) else (corebankref14_Slices.l0 k x0 x7 x8 (wrap64 (x9 + 1)))) else (none)) else (none)) else (none)) else (none)) else (if 0 ≤ x9 then (if x9 < (x0.length : Int) then (if x10 > ((rd_T50 x0 x9).f0) then (if x7.length < 8796093022208 then (corebankref14_Slices.l0 k x0 (x7 ++ [(⟨wrap64 (x10 - ((rd_T50 x0 x9).f0)), (rd_T50 x0 x9).f1⟩ : S43)]) x8 (wrap64 (x9 + 1))) else (none)) else (corebankref14_Slices.l0 k x0 x7 x8 (wrap64 (x9 + 1)))) else (none)) else (none))
end
def corebankref14_Slices.f (k : Nat) (l0 : List (S50)) (a1 : Bool) (a2 : Int) : Option ((List (S43))) := (some (([] : List (S43)) : List (S43))).bind fun y218 => ((corebankref14_Size.f a2).bind fun t221 => ((corebankref14_Check.f k l0).bind fun t222 => (if t222 = 0 then (if (l0.length : Int) = 0 then (corebankref14_Slices.j0 k l0 a1 a2 y218 t221 true) else (corebankref14_Slices.j0 k l0 a1 a2 y218 t221 (t221 == 0))) else (corebankref14_Slices.j0 k l0 a1 a2 y218 t221 true))))
theorem corebankref14_Slices.mono_l : ∀ k, (∀ y0 y1 y2 y3 y4 y5, LeO (corebankref14_Slices.j0 k y0 y1 y2 y3 y4 y5) (corebankref14_Slices.j0 (k + 1) y0 y1 y2 y3 y4 y5)) ∧ (∀ y0 y1 y2 y3, LeO (corebankref14_Slices.l0 k y0 y1 y2 y3) (corebankref14_Slices.l0 (k + 1) y0 y1 y2 y3)) ∧ (∀ y0 y1 y2 y3 y4 y5, LeO (corebankref14_Slices.j2 k y0 y1 y2 y3 y4 y5) (corebankref14_Slices.j2 (k + 1) y0 y1 y2 y3 y4 y5))
  | 0 => ⟨fun _ _ _ _ _ _ r h => by simp [corebankref14_Slices.j0] at h, fun _ _ _ _ r h => by simp [corebankref14_Slices.l0] at h, fun _ _ _ _ _ _ r h => by simp [corebankref14_Slices.j2] at h⟩
  | k + 1 => by
    obtain ⟨ih0, ih1, ih2⟩ := corebankref14_Slices.mono_l k
    refine ⟨?_, ?_, ?_⟩
    · intro y0 y1 y2 y3 y4 y5
      unfold corebankref14_Slices.j0
      repeat' first
      | (with_reducible exact ih0 _ _ _ _ _ _)
      | (with_reducible exact ih1 _ _ _ _)
      | (with_reducible exact ih2 _ _ _ _ _ _)
      | (with_reducible exact corebankref14_Check.mono _ _)
      | (with_reducible exact corebankref14_Rate.mono _ _ _)
      | (with_reducible exact LeO.refl _)
      | (with_reducible exact LeO.none _)
      | (with_reducible refine LeO.ite ?_ ?_)
      | (with_reducible refine LeO.bind ?_ (fun _ => ?_))
      | exact ih0 _ _ _ _ _ _
      | exact ih1 _ _ _ _
      | exact ih2 _ _ _ _ _ _
      | exact corebankref14_Check.mono _ _
      | exact corebankref14_Rate.mono _ _ _
      | exact LeO.none _
      | refine LeO.ite ?_ ?_
      | refine LeO.bind ?_ (fun _ => ?_)
    · intro y0 y1 y2 y3
      unfold corebankref14_Slices.l0
      repeat' first
      | (with_reducible exact ih0 _ _ _ _ _ _)
      | (with_reducible exact ih1 _ _ _ _)
      | (with_reducible exact ih2 _ _ _ _ _ _)
      | (with_reducible exact corebankref14_Check.mono _ _)
      | (with_reducible exact corebankref14_Rate.mono _ _ _)
      | (with_reducible exact LeO.refl _)
      | (with_reducible exact LeO.none _)
      | (with_reducible refine LeO.ite ?_ ?_)
      | (with_reducible refine LeO.bind ?_ (fun _ => ?_))
      | exact ih0 _ _ _ _ _ _
      | exact ih1 _ _ _ _
      | exact ih2 _ _ _ _ _ _
      | exact corebankref14_Check.mono _ _
      | exact corebankref14_Rate.mono _ _ _
      | exact LeO.none _
      | refine LeO.ite ?_ ?_
      | refine LeO.bind ?_ (fun _ => ?_)
    · intro y0 y1 y2 y3 y4 y5
      unfold corebankref14_Slices.j2
      repeat' first
      | (with_reducible exact ih0 _ _ _ _ _ _)
      | (with_reducible exact ih1 _ _ _ _)
      | (with_reducible exact ih2 _ _ _ _ _ _)
      | (with_reducible exact corebankref14_Check.mono _ _)
      | (with_reducible exact corebankref14_Rate.mono _ _ _)
      | (with_reducible exact LeO.refl _)
      | (with_reducible exact LeO.none _)
      | (with_reducible refine LeO.ite ?_ ?_)
      | (with_reducible refine LeO.bind ?_ (fun _ => ?_))
      | exact ih0 _ _ _ _ _ _
      | exact ih1 _ _ _ _
      | exact ih2 _ _ _ _ _ _
      | exact corebankref14_Check.mono _ _
      | exact corebankref14_Rate.mono _ _ _
      | exact LeO.none _
      | refine LeO.ite ?_ ?_
      | refine LeO.bind ?_ (fun _ => ?_)
theorem corebankref14_Slices.mono : ∀ a0 a1 a2 k, LeO (corebankref14_Slices.f k a0 a1 a2) (corebankref14_Slices.f (k + 1) a0 a1 a2) := by
  intro a0 a1 a2 k
  obtain ⟨ih0, ih1, ih2⟩ := corebankref14_Slices.mono_l k
  unfold corebankref14_Slices.f
  repeat' first
      | (with_reducible exact ih0 _ _ _ _ _ _)
      | (with_reducible exact ih1 _ _ _ _)
      | (with_reducible exact ih2 _ _ _ _ _ _)
      | (with_reducible exact corebankref14_Check.mono _ _)
      | (with_reducible exact corebankref14_Rate.mono _ _ _)
      | (with_reducible exact LeO.refl _)
      | (with_reducible exact LeO.none _)
      | (with_reducible refine LeO.ite ?_ ?_)
      | (with_reducible refine LeO.bind ?_ (fun _ => ?_))
      | exact ih0 _ _ _ _ _ _
      | exact ih1 _ _ _ _
      | exact ih2 _ _ _ _ _ _
      | exact corebankref14_Check.mono _ _
      | exact corebankref14_Rate.mono _ _ _
      | exact LeO.none _
      | refine LeO.ite ?_ ?_
      | refine LeO.bind ?_ (fun _ => ?_)
def corebankref14_Slices.T14 : Bool × List (List Nat × List Nat) := (true, [([], []), ([], []), ([], []), ([], []), ([2, 3], [2, 3]), ([4], [4]), ([5], [5]), ([1, 6], [1, 6]), ([], []), ([], []), ([8, 9], [8, 9]), ([10], [10]), ([11], [11]), ([7, 12], [7, 12]), ([13], [13]), ([0, 14], [0, 14]), ([15, 15, 0, 1, 2, 3, 4, 5, 6, 7, 8, 9, 10, 11, 12, 13, 14, 15], [0, 15])])
def corebankref14_Slices.B14 : List Nat := [0, 0, 0, 0, 12, 28, 60, 126, 0, 0, 768, 1792, 3840, 8190, 16382, 32767, 65535]
theorem corebankref14_Slices.tab14 : rtab .any (opsOf Try.f23 14) = corebankref14_Slices.T14 := by kernel_rfl
theorem corebankref14_Slices.bits14 : waitsOk corebankref14_Slices.T14.2 corebankref14_Slices.B14 = true := by kernel_rfl
set_option maxHeartbeats 8000000 in
set_option maxRecDepth 100000 in
theorem corebankref14_Slices.calls (k : Nat) (A0 : Option Addr) (c0 : Nat) (l0 : List (S50)) (a1 : Bool) (a2 : Int) (r : List (S43)) (w : World) (hr0 : Kd.C k50 w A0 l0.length l0) (hc0 : l0.length ≤ c0) (h : corebankref14_Slices.f k l0 a1 a2 = some r) :
    Calls Try.prog 23 #[.slice A0 l0.length c0, .bool a1, .int .i64 a2] w fun e w' => ∃ v0_ : Value, e = .returned (v0_) ∧ Kd.R k43 43 w' w.heap.size (fun _ => True) v0_ r ∧ Below w.heap.size w w' := by
  have hu43 := Try.underlying43
  have HR0 := Aside0.mk hr0
  have HC0 := Aside0.mk hc0
  clear hr0 hc0
  have HB := Aside0.mk (Below.refl w.heap.size w)
  have H : ((some (([] : List (S43)) : List (S43))).bind fun y218 => ((corebankref14_Size.f a2).bind fun t221 => ((corebankref14_Check.f k l0).bind fun t222 => (if t222 = 0 then (if (l0.length : Int) = 0 then (corebankref14_Slices.j0 k l0 a1 a2 y218 t221 true) else (corebankref14_Slices.j0 k l0 a1 a2 y218 t221 (t221 == 0))) else (corebankref14_Slices.j0 k l0 a1 a2 y218 t221 true))))) = some r := h
  clear h
  obtain ⟨y218, hy218⟩ : ∃ y_ : List (S43), y_ = (([] : List (S43))) := ⟨_, rfl⟩
  replace H : ((corebankref14_Size.f a2).bind fun t221 => ((corebankref14_Check.f k l0).bind fun t222 => (if t222 = 0 then (if (l0.length : Int) = 0 then (corebankref14_Slices.j0 k l0 a1 a2 y218 t221 true) else (corebankref14_Slices.j0 k l0 a1 a2 y218 t221 (t221 == 0))) else (corebankref14_Slices.j0 k l0 a1 a2 y218 t221 true)))) = some r := by first | (rw [hy218]; with_reducible exact H) | (have H2_ := (Option.bind_some _ _).symm.trans H; rw [hy218]; with_reducible exact H2_) | (have H2_ := (Option.bind_some _ _).symm.trans H; with_reducible exact H2_) | with_reducible exact H | (rw [hy218]; exact H) | exact H
  have Ny218 := Aside0.mk hy218
  clear hy218
  replace H := Option.bind_eq_some_iff.mp H
  obtain ⟨t221, A40, H⟩ := H
  replace H : ((corebankref14_Check.f k l0).bind fun t222 => (if t222 = 0 then (if (l0.length : Int) = 0 then (corebankref14_Slices.j0 k l0 a1 a2 y218 t221 true) else (corebankref14_Slices.j0 k l0 a1 a2 y218 t221 (t221 == 0))) else (corebankref14_Slices.j0 k l0 a1 a2 y218 t221 true))) = some r := H
  have A4 := Aside0.mk A40
  clear A40
  have HC5 := Aside0.mk H
  clear H
  go_enter Try.func23, Try.ntmps23
  go_upto_region 3 with (first | ((with_reducible refine gate_dst (N := 11) rfl ?_); (try (refine gate_guard (by rfl) ?_; dsimp only)); refine Kd.R_lit k43 _ 43 ?hg (N := 11) ?hd (xs := ([] : List (S43))) (inner := []) (ok := fun _ => True) (okp := fun _ => True) ?hr ?hp (fun _ hk => hk) trivial (Below.refl _ _) (Nat.le_refl _) (by simp) ?_; (case hd => rfl); (case hg => rfl); (case hr => first | (go_simp; done) | (go_simp; rfl)); (case hp => exact (Reps.none _ _)); intro v219 w6 ho7 hb hg_ hnew_; clear hg_ hnew_; (first | rw [← Ny218.out] at ho7 | (simp only [Int.reduceToNat] at ho7; rw [← Ny218.out] at ho7)); have HO220 := Aside0.mk (Kd.R_lower ho7 (below_size (hq HB))); replace HB := bs HB hb; clear hb ho7) | ((with_reducible refine gate_callee (f := 26) rfl ?_); refine goesL_ (some 13) rfl rfl Try.func26 (by kernel_rfl) rfl #[.int .i64 a2] rfl zm ?_; (with_reducible refine (corebankref14_Size.calls a2 t221 _ A4.out).mono ?_); rintro e w' ⟨rfl, ⟨nd, rfl⟩⟩; refine ⟨_, rfl, ?_⟩))
  (try simp only [Act.put, List.setIfInBounds_toArray, List.set_cons_zero, List.set_cons_succ])
  go_cut [25] (fun v25 wc => ∃ (kq : Nat) (x25_4 : Bool), v25 = .bool x25_4 ∧ Aside0 (corebankref14_Slices.j0 kq l0 a1 a2 y218 t221 x25_4 = some r) ∧ Aside0 (kq ≤ k) ∧ Aside0 (Kd.R k43 43 wc w.heap.size (fun _ => True) v219 y218) ∧ Aside0 (Below w.heap.size w wc))
  case first =>
    have H := HC5.out
    clear HC5
    replace H := Option.bind_eq_some_iff.mp H
    obtain ⟨t222, A80, H⟩ := H
    replace H : (if t222 = 0 then (if (l0.length : Int) = 0 then (corebankref14_Slices.j0 k l0 a1 a2 y218 t221 true) else (corebankref14_Slices.j0 k l0 a1 a2 y218 t221 (t221 == 0))) else (corebankref14_Slices.j0 k l0 a1 a2 y218 t221 true)) = some r := H
    have A8 := Aside0.mk A80
    clear A80
    by_cases c9 : t222 = 0
    · rw [if_pos c9] at H
      have c9b0 : (t222 == 0) = true := beq_iff_eq.mpr c9
      have c9b1 : (t222 != 0) = false := bne_eq_false_iff_eq.mpr c9
      clear c9
      (first | rw [c9b0] | (simp only [i64_w, i32_w]; rw [c9b0]) | skip)
      by_cases c10 : (l0.length : Int) = 0
      · rw [if_pos c10] at H
        have c10b0 : ((l0.length : Int) == 0) = true := beq_iff_eq.mpr c10
        have c10b1 : ((l0.length : Int) != 0) = false := bne_eq_false_iff_eq.mpr c10
        clear c10
        have H' := Aside0.mk H
        clear H
        go_wp2_with (first | ((with_reducible refine gate_callee (f := 17) rfl ?_); refine goesL_ (some 15) rfl rfl Try.func17 (by kernel_rfl) rfl #[.slice A0 l0.length c0] rfl zm ?_; (with_reducible refine (corebankref14_Check.calls k _ _ l0 t222 _ ?side1 ?side2 A8.out).mono ?_); (case side1 => repeat (first | exact (Kd.C_below HR0.out HB.out) | (with_reducible refine Kd.C_alloc ?_ _) | (with_reducible refine Kd.C_drewN ?_ _) | (with_reducible refine Kd.C_drew ?_))); (case side2 => exact HC0.out); rintro e w' ⟨rfl, ⟨nd, rfl⟩⟩; refine ⟨_, rfl, ?_⟩))
        go_meet
        case rel => exact ⟨_, (true), (by first | rfl | (simp; done) | (simp [*]; done)), H', ⟨by first | omega | exact Nat.le_refl _⟩, ⟨by (with_reducible repeat (first | apply Kd.R_alloc | apply Kd.R_drewN | apply Kd.R_drew)); exact HO220.out⟩, ⟨hq HB⟩⟩
      · rw [if_neg c10] at H
        have c10b0 : ((l0.length : Int) == 0) = false := beq_eq_false_iff_ne.mpr c10
        have c10b1 : ((l0.length : Int) != 0) = true := bne_iff_ne.mpr c10
        have c10b2 : ¬ (l0 = []) := fun h_ => c10 (by rw [h_]; rfl)
        have H' := Aside0.mk H
        clear H
        go_wp2_with (first | ((with_reducible refine gate_callee (f := 17) rfl ?_); refine goesL_ (some 15) rfl rfl Try.func17 (by kernel_rfl) rfl #[.slice A0 l0.length c0] rfl zm ?_; (with_reducible refine (corebankref14_Check.calls k _ _ l0 t222 _ ?side1 ?side2 A8.out).mono ?_); (case side1 => repeat (first | exact (Kd.C_below HR0.out HB.out) | (with_reducible refine Kd.C_alloc ?_ _) | (with_reducible refine Kd.C_drewN ?_ _) | (with_reducible refine Kd.C_drew ?_))); (case side2 => exact HC0.out); rintro e w' ⟨rfl, ⟨nd, rfl⟩⟩; refine ⟨_, rfl, ?_⟩))
        go_meet
        case rel => exact ⟨_, ((t221 == 0)), (by first | rfl | (simp; done) | (simp [*]; done)), H', ⟨by first | omega | exact Nat.le_refl _⟩, ⟨by (with_reducible repeat (first | apply Kd.R_alloc | apply Kd.R_drewN | apply Kd.R_drew)); exact HO220.out⟩, ⟨hq HB⟩⟩
    · rw [if_neg c9] at H
      have c9b0 : (t222 == 0) = false := beq_eq_false_iff_ne.mpr c9
      have c9b1 : (t222 != 0) = true := bne_iff_ne.mpr c9
      (first | rw [c9b0] | (simp only [i64_w, i32_w]; rw [c9b0]) | skip)
      have H' := Aside0.mk H
      clear H
      go_wp2_with (first | ((with_reducible refine gate_callee (f := 17) rfl ?_); refine goesL_ (some 15) rfl rfl Try.func17 (by kernel_rfl) rfl #[.slice A0 l0.length c0] rfl zm ?_; (with_reducible refine (corebankref14_Check.calls k _ _ l0 t222 _ ?side1 ?side2 A8.out).mono ?_); (case side1 => repeat (first | exact (Kd.C_below HR0.out HB.out) | (with_reducible refine Kd.C_alloc ?_ _) | (with_reducible refine Kd.C_drewN ?_ _) | (with_reducible refine Kd.C_drew ?_))); (case side2 => exact HC0.out); rintro e w' ⟨rfl, ⟨nd, rfl⟩⟩; refine ⟨_, rfl, ?_⟩))
      go_meet
      case rel => exact ⟨_, (true), (by first | rfl | (simp; done) | (simp [*]; done)), H', ⟨by first | omega | exact Nat.le_refl _⟩, ⟨by (with_reducible repeat (first | apply Kd.R_alloc | apply Kd.R_drewN | apply Kd.R_drew)); exact HO220.out⟩, ⟨hq HB⟩⟩
  case rest =>
    clear HC5
    try clear c1
    try clear c2
    try clear p2
    try clear c9
    try clear c9b0
    try clear c9b1
    try clear c10
    try clear c10b0
    try clear c10b1
    try clear c10b2
    obtain ⟨kq, x25_4, rfl, HA, HJ4, HO_7, HB⟩ := hcut
    cases kq with
    | zero => exact absurd HA.out (by simp [corebankref14_Slices.j0])
    | succ kj4 =>
      have H := HA.out
      clear HA
      simp only [corebankref14_Slices.j0] at H
      by_cases c11 : x25_4 = true
      · subst c11
        have H1 : (some y218) = some r := by rw [if_pos rfl] at H; exact H
        clear H
        have H := H1
        clear H1
        obtain rfl := Option.some.inj H
        go_wp2
        go_ret
        exact ⟨_, by first | rfl | (simp [errW_none, errW_some] <;> rfl) | (simp [*, errW_none, errW_some] <;> rfl), by (with_reducible repeat (first | apply Kd.R_alloc | apply Kd.R_drewN | apply Kd.R_drew)); exact HO_7.out, hq HB⟩
      · replace c11 := Bool.eq_false_iff.mpr c11
        subst c11
        have H1 : (if a1 = true then (corebankref14_Slices.l0 kj4 l0 y218 t221 0) else ((corebankref14_Rate.f kj4 l0 a2).bind fun t223 => (some (([(⟨t221, t223⟩ : S43)] : List (S43)))))) = some r := by rw [if_neg (show ¬ (false = true) by decide)] at H; exact H
        clear H
        have H := H1
        clear H1
        by_cases c12 : a1 = true
        · subst c12
          have H1 : (corebankref14_Slices.l0 kj4 l0 y218 t221 0) = some r := by rw [if_pos rfl] at H; exact H
          clear H
          have H := H1
          clear H1
          have H' := Aside0.mk H
          clear H
          go_wp2
          go_loopg [7, 9] kj4 (fun kq v7 v9 w' => ∃ (x7_2 : List (S43)) (x9_2 : Int), v9 = .int .i64 x9_2 ∧ Aside0 (corebankref14_Slices.l0 kq l0 x7_2 t221 x9_2 = some r) ∧ Aside0 (kq ≤ kj4) ∧ Aside0 (Kd.R k43 43 w' w.heap.size (fun _ => True) v7 x7_2) ∧ Aside0 (Below w.heap.size w w'))
          case atStart => exact ⟨(y218), (0), (by first | rfl | (simp; done) | (simp [*]; done)), H', ⟨Nat.le_refl _⟩, ⟨by (with_reducible repeat (first | apply Kd.R_alloc | apply Kd.R_drewN | apply Kd.R_drew)); exact HO_7.out⟩, ⟨hq HB⟩⟩
          case round =>
            clear H'
            try clear c1
            try clear c2
            try clear p2
            try clear c9
            try clear c9b0
            try clear c9b1
            try clear c10
            try clear c10b0
            try clear c10b1
            try clear c10b2
            try clear c11
            try clear c12
            try clear p2
            obtain ⟨x7_2, x9_2, rfl, HA, HK2, HO_7, HB⟩ := hrel
            cases gk with
            | zero => exact absurd HA.out (by simp [corebankref14_Slices.l0])
            | succ k2 =>
              have H := HA.out
              clear HA
              simp only [corebankref14_Slices.l0] at H
              by_cases c13 : x9_2 < (l0.length : Int)
              · rw [if_pos c13] at H
                have c13b0 : decide (x9_2 < (l0.length : Int)) = true := decide_eq_true c13
                clear c13
                have HC14 := Aside0.mk H
                clear H
                go_upto_region 11 with (fail)
                go_cut [56] (fun v56 wc => ∃ (kq : Nat) (x56_13 : Bool), v56 = .bool x56_13 ∧ Aside0 (corebankref14_Slices.j2 kq l0 x7_2 t221 x9_2 t221 x56_13 = some r) ∧ Aside0 (kq ≤ k2) ∧ Aside0 (Kd.R k43 43 wc w.heap.size (fun _ => True) u7 x7_2) ∧ Aside0 (Below w.heap.size w wc))
                case first =>
                  have H := HC14.out
                  clear HC14
                  by_cases c15 : (wrap64 (x9_2 + 1)) < (l0.length : Int)
                  · rw [if_pos c15] at H
                    have c15b0 : decide ((wrap64 (x9_2 + 1)) < (l0.length : Int)) = true := decide_eq_true c15
                    clear c15
                    (first | rw [c15b0] | (simp only [i64_w, i32_w]; rw [c15b0]) | skip)
                    obtain ⟨ji16, hji16⟩ : ∃ j_ : Int, (wrap64 (x9_2 + 1)) = j_ := ⟨_, rfl⟩
                    replace H : (if 0 ≤ (ji16) then (corebankref14_Slices.j2 k2 l0 x7_2 t221 x9_2 t221 (decide (((rd_T50 l0 (ji16)).f0) < t221))) else (none)) = some r := by first | (rw [hji16] at H; exact H) | (simp only [hji16] at H ⊢; exact H)
                    (try rw [hji16] at c15b0)
                    have hji16w : (IntKind.i64.wrap (x9_2 + 1)) = ji16 := (i64_w _).trans hji16
                    by_cases c17 : 0 ≤ (ji16)
                    · rw [if_pos c17] at H
                      have c17b0 : decide (0 ≤ (ji16)) = true := decide_eq_true c17
                      clear c17
                      have H' := Aside0.mk H
                      clear H
                      have p227 : 0 ≤ ((ji16) : Int) := of_decide_eq_true (by first | (with_reducible assumption) | assumption)
                      have q227 : (ji16) < (l0.length : Int) := of_decide_eq_true (by first | (with_reducible assumption) | assumption)
                      obtain ⟨ad227, e227, hx227_0, hx227_1⟩ := at_T50 HR0.out (ji16) p227 q227
                      cases e227
                      replace hx227_0 := (HB.out.cell (World.block_lt_of_cell? w _ hx227_0)).trans hx227_0
                      replace hx227_1 := (HB.out.cell (World.block_lt_of_cell? w _ hx227_1)).trans hx227_1
                      replace p227 := eq_true p227
                      replace q227 := eq_true q227
                      go_wp2
                      go_meet
                      case rel => exact ⟨_, (decide (((rd_T50 l0 (ji16)).f0) < t221)), (by first | rfl | (simp; done) | (simp only [← hji16] <;> (first | rfl | simp)) | (simp [*]; done)), H', ⟨by have := HJ4.out; have := HK2.out; first | omega | exact Nat.le_refl _⟩, ⟨by (with_reducible repeat (first | apply Kd.R_alloc | apply Kd.R_drewN | apply Kd.R_drew)); exact HO_7.out⟩, ⟨hq HB⟩⟩
                    · rw [if_neg c17] at H
                      exact absurd H (by simp)
                  · rw [if_neg c15] at H
                    have c15b0 : decide ((wrap64 (x9_2 + 1)) < (l0.length : Int)) = false := decide_eq_false c15
                    clear c15
                    (first | rw [c15b0] | (simp only [i64_w, i32_w]; rw [c15b0]) | skip)
                    have H' := Aside0.mk H
                    clear H
                    go_wp2
                    go_meet
                    case rel => exact ⟨_, (false), (by first | rfl | (simp; done) | (simp [*]; done)), H', ⟨by have := HJ4.out; have := HK2.out; first | omega | exact Nat.le_refl _⟩, ⟨by (with_reducible repeat (first | apply Kd.R_alloc | apply Kd.R_drewN | apply Kd.R_drew)); exact HO_7.out⟩, ⟨hq HB⟩⟩
                case rest =>
                  clear HC14
                  try clear c1
                  try clear c2
                  try clear p2
                  try clear q2
                  try clear hx2
                  try clear p6
                  try clear c9
                  try clear c9b0
                  try clear c9b1
                  try clear c10
                  try clear c10b0
                  try clear c10b1
                  try clear c10b2
                  try clear c11
                  try clear c12
                  try clear c13
                  try clear c13b0
                  try clear c15
                  try clear c15b0
                  try clear c17
                  try clear c17b0
                  try clear hx227_0
                  try clear hx227_1
                  try clear p2
                  try clear p227
                  try clear q227
                  obtain ⟨kq, x56_13, rfl, HA, HJ13, HO_7, HB⟩ := hcut
                  cases kq with
                  | zero => exact absurd HA.out (by simp [corebankref14_Slices.j2])
                  | succ kj13 =>
                    have H := HA.out
                    clear HA
                    simp only [corebankref14_Slices.j2] at H
                    by_cases c18 : x56_13 = true
                    · subst c18
                      have H1 : (if 0 ≤ (wrap64 (x9_2 + 1)) then (if (wrap64 (x9_2 + 1)) < (l0.length : Int) then (if 0 ≤ x9_2 then (if x9_2 < (l0.length : Int) then (if ((rd_T50 l0 (wrap64 (x9_2 + 1))).f0) > ((rd_T50 l0 x9_2).f0) then (if x7_2.length < 8796093022208 then (corebankref14_Slices.l0 kj13 l0 (x7_2 ++ [(⟨wrap64 (((rd_T50 l0 (wrap64 (x9_2 + 1))).f0) - ((rd_T50 l0 x9_2).f0)), (rd_T50 l0 x9_2).f1⟩ : S43)]) t221 (wrap64 (x9_2 + 1))) else (none)) else (corebankref14_Slices.l0 kj13 l0 x7_2 t221 (wrap64 (x9_2 + 1)))) else (none)) else (none)) else (none)) else (none)) = some r := by rw [if_pos rfl] at H; exact H
                      clear H
                      have H := H1
                      clear H1
                      obtain ⟨ji19, hji19⟩ : ∃ j_ : Int, (wrap64 (x9_2 + 1)) = j_ := ⟨_, rfl⟩
                      replace H : (if 0 ≤ (ji19) then (if (ji19) < (l0.length : Int) then (if 0 ≤ x9_2 then (if x9_2 < (l0.length : Int) then (if ((rd_T50 l0 (ji19)).f0) > ((rd_T50 l0 x9_2).f0) then (if x7_2.length < 8796093022208 then (corebankref14_Slices.l0 kj13 l0 (x7_2 ++ [(⟨wrap64 (((rd_T50 l0 (ji19)).f0) - ((rd_T50 l0 x9_2).f0)), (rd_T50 l0 x9_2).f1⟩ : S43)]) t221 ji19) else (none)) else (corebankref14_Slices.l0 kj13 l0 x7_2 t221 ji19)) else (none)) else (none)) else (none)) else (none)) = some r := by first | (rw [hji19] at H; exact H) | (simp only [hji19] at H ⊢; exact H)
                      have hji19w : (IntKind.i64.wrap (x9_2 + 1)) = ji19 := (i64_w _).trans hji19
                      by_cases c20 : 0 ≤ (ji19)
                      · rw [if_pos c20] at H
                        have c20b0 : decide (0 ≤ (ji19)) = true := decide_eq_true c20
                        clear c20
                        by_cases c21 : (ji19) < (l0.length : Int)
                        · rw [if_pos c21] at H
                          have c21b0 : decide ((ji19) < (l0.length : Int)) = true := decide_eq_true c21
                          clear c21
                          by_cases c22 : 0 ≤ x9_2
                          · rw [if_pos c22] at H
                            have c22b0 : decide (0 ≤ x9_2) = true := decide_eq_true c22
                            clear c22
                            by_cases c23 : x9_2 < (l0.length : Int)
                            · rw [if_pos c23] at H
                              have c23b0 : decide (x9_2 < (l0.length : Int)) = true := decide_eq_true c23
                              clear c23
                              by_cases c24 : ((rd_T50 l0 (ji19)).f0) > ((rd_T50 l0 x9_2).f0)
                              · rw [if_pos c24] at H
                                have c24b0 : decide (((rd_T50 l0 x9_2).f0) < ((rd_T50 l0 (ji19)).f0)) = true := decide_eq_true c24
                                clear c24
                                by_cases c25 : x7_2.length < 8796093022208
                                · rw [if_pos c25] at H
                                  have LMc25 := Aside0.mk c25
                                  clear c25
                                  obtain ⟨y232, hy232⟩ : ∃ y_ : List (S43), y_ = (x7_2 ++ [(⟨wrap64 (((rd_T50 l0 (ji19)).f0) - ((rd_T50 l0 x9_2).f0)), (rd_T50 l0 x9_2).f1⟩ : S43)]) := ⟨_, rfl⟩
                                  replace H : (corebankref14_Slices.l0 kj13 l0 y232 t221 ji19) = some r := by first | (rw [hy232]; with_reducible exact H) | (have H2_ := (Option.bind_some _ _).symm.trans H; rw [hy232]; with_reducible exact H2_) | (have H2_ := (Option.bind_some _ _).symm.trans H; with_reducible exact H2_) | with_reducible exact H | (rw [hy232]; exact H) | exact H
                                  have Ny232 := Aside0.mk hy232
                                  clear hy232
                                  have H' := Aside0.mk H
                                  clear H
                                  have p228 : 0 ≤ ((ji19) : Int) := of_decide_eq_true (by first | (with_reducible assumption) | assumption)
                                  have q228 : (ji19) < (l0.length : Int) := of_decide_eq_true (by first | (with_reducible assumption) | assumption)
                                  obtain ⟨ad228, e228, hx228_0, hx228_1⟩ := at_T50 HR0.out (ji19) p228 q228
                                  cases e228
                                  replace hx228_0 := (HB.out.cell (World.block_lt_of_cell? w _ hx228_0)).trans hx228_0
                                  replace hx228_1 := (HB.out.cell (World.block_lt_of_cell? w _ hx228_1)).trans hx228_1
                                  replace p228 := eq_true p228
                                  replace q228 := eq_true q228
                                  have p229 : 0 ≤ (x9_2 : Int) := of_decide_eq_true (by first | (with_reducible assumption) | assumption)
                                  have q229 : x9_2 < (l0.length : Int) := of_decide_eq_true (by first | (with_reducible assumption) | assumption)
                                  obtain ⟨ad229, e229, hx229_0, hx229_1⟩ := at_T50 HR0.out x9_2 p229 q229
                                  obtain rfl : ad228 = ad229 := (by injection e229)
                                  replace hx229_0 := (HB.out.cell (World.block_lt_of_cell? w _ hx229_0)).trans hx229_0
                                  replace hx229_1 := (HB.out.cell (World.block_lt_of_cell? w _ hx229_1)).trans hx229_1
                                  replace p229 := eq_true p229
                                  replace q229 := eq_true q229
                                  try go_wp2
                                  replace HO_7 := Aside0.mk (Kd.R_drew HO_7.out)
                                  replace HB := hb1 HB
                                  have p230 : 0 ≤ (x9_2 : Int) := of_decide_eq_true (by first | (with_reducible assumption) | assumption)
                                  have q230 : x9_2 < (l0.length : Int) := of_decide_eq_true (by first | (with_reducible assumption) | assumption)
                                  obtain ⟨ad230, e230, hx230_0, hx230_1⟩ := at_T50 HR0.out x9_2 p230 q230
                                  have hw230_1 := hx230_1
                                  have hw230_0 := hx230_0
                                  obtain rfl : ad228 = ad230 := (by injection e230)
                                  replace hx230_0 := (HB.out.cell (World.block_lt_of_cell? w _ hx230_0)).trans hx230_0
                                  replace hx230_1 := (HB.out.cell (World.block_lt_of_cell? w _ hx230_1)).trans hx230_1
                                  replace p230 := eq_true p230
                                  replace q230 := eq_true q230
                                  have p231 : 0 ≤ (x9_2 : Int) := of_decide_eq_true (by first | (with_reducible assumption) | assumption)
                                  have q231 : x9_2 < (l0.length : Int) := of_decide_eq_true (by first | (with_reducible assumption) | assumption)
                                  obtain ⟨ad231, e231, hx231_0, hx231_1⟩ := at_T50 HR0.out x9_2 p231 q231
                                  have hw231_1 := hx231_1
                                  have hw231_0 := hx231_0
                                  obtain rfl : ad228 = ad231 := (by injection e231)
                                  replace hx231_0 := (HB.out.cell (World.block_lt_of_cell? w _ hx231_0)).trans hx231_0
                                  replace hx231_1 := (HB.out.cell (World.block_lt_of_cell? w _ hx231_1)).trans hx231_1
                                  replace p231 := eq_true p231
                                  replace q231 := eq_true q231
                                  refine start_ (n := 17) (S := fun w' => w'.cell? (ad228.add ((x9_2).toNat * 2)) = some (.int .i64 ((rd_T50 l0 x9_2).f0)) ∧ w'.cell? ⟨(ad228.add ((x9_2).toNat * 2)).block, (ad228.add ((x9_2).toNat * 2)).off + 1, none⟩ = some (.int .i64 ((rd_T50 l0 x9_2).f1)) ∧ w'.cell? (ad228.add ((x9_2).toNat * 2)) = some (.int .i64 ((rd_T50 l0 x9_2).f0)) ∧ w'.cell? ⟨(ad228.add ((x9_2).toNat * 2)).block, (ad228.add ((x9_2).toNat * 2)).off + 1, none⟩ = some (.int .i64 ((rd_T50 l0 x9_2).f1))) (ds := []) #[false, false, false, false, false, false, false, false, false, false, false, false, false, false, false, false, false] (by kernel_rfl) rfl rfl ⟨((HB.out.cell (World.block_lt_of_cell? w _ hw230_0)).trans hw230_0), ((HB.out.cell (World.block_lt_of_cell? w _ hw230_1)).trans hw230_1), ((HB.out.cell (World.block_lt_of_cell? w _ hw231_0)).trans hw231_0), ((HB.out.cell (World.block_lt_of_cell? w _ hw231_1)).trans hw231_1)⟩ (fun hHeld => ?_); refine with_tabW corebankref14_Slices.tab14 corebankref14_Slices.bits14 (fun HT_ HW_ => ?_)
                                  generalize wc.drew = w26 at HO_7 HB hx230_0 hx230_1 hx231_0 hx231_1 hHeld ⊢
                                  refine pz (i := 0) (N := some 70) #[true, false, false, false, false, false, false, false, false, false, false, false, false, false, false, false, false] rfl rfl (any_of HT_.out (by kernel_rfl)) (fun _ _ _ h => h) ?_
                                  refine pz (i := 1) (N := some 71) #[true, true, false, false, false, false, false, false, false, false, false, false, false, false, false, false, false] rfl rfl (any_of HT_.out (by kernel_rfl)) (fun _ _ _ h => h) ?_
                                  refine pz (i := 2) (N := some 72) #[true, true, true, false, false, false, false, false, false, false, false, false, false, false, false, false, false] rfl rfl (any_of HT_.out (by kernel_rfl)) (fun _ _ _ h => h) ?_
                                  refine pz (i := 3) (N := some 73) #[true, true, true, true, false, false, false, false, false, false, false, false, false, false, false, false, false] rfl rfl (any_of HT_.out (by kernel_rfl)) (fun _ _ _ h => h) ?_
                                  refine pz (i := 4) (N := some 74) #[true, true, true, true, true, false, false, false, false, false, false, false, false, false, false, false, false] rfl rfl (any_of HT_.out (by kernel_rfl)) (fun _ _ _ h => h) ?_
                                  refine pz (i := 5) (N := some 75) #[true, true, true, true, true, true, false, false, false, false, false, false, false, false, false, false, false] rfl rfl (any_of HT_.out (by kernel_rfl)) (fun _ _ _ h => h) ?_
                                  refine pz (i := 8) (N := some 78) #[true, true, true, true, true, true, false, false, true, false, false, false, false, false, false, false, false] rfl rfl (any_of HT_.out (by kernel_rfl)) (fun _ _ _ h => h) ?_
                                  refine pz (i := 9) (N := some 79) #[true, true, true, true, true, true, false, false, true, true, false, false, false, false, false, false, false] rfl rfl (any_of HT_.out (by kernel_rfl)) (fun _ _ _ h => h) ?_
                                  refine pz (i := 10) (N := some 80) #[true, true, true, true, true, true, false, false, true, true, true, false, false, false, false, false, false] rfl rfl (any_of HT_.out (by kernel_rfl)) (fun _ _ _ h => h) ?_
                                  refine pz (i := 11) (N := some 81) #[true, true, true, true, true, true, false, false, true, true, true, true, false, false, false, false, false] rfl rfl (any_of HT_.out (by kernel_rfl)) (fun _ _ _ h => h) ?_
                                  refine tz4 (i := 6) (N := some 76) #[true, true, true, true, true, true, true, false, true, true, true, true, false, false, false, false, false] rfl rfl (take_ofW HT_.out HW_.out (by kernel_rfl)) (fun _ _ _ h => h) hHeld ?_
                                  refine pz (i := 7) (N := some 77) #[true, true, true, true, true, true, true, true, true, true, true, true, false, false, false, false, false] rfl rfl (any_of HT_.out (by kernel_rfl)) (fun _ _ _ h => h) ?_
                                  refine tz4 (i := 12) (N := some 82) #[true, true, true, true, true, true, true, true, true, true, true, true, true, false, false, false, false] rfl rfl (take_ofW HT_.out HW_.out (by kernel_rfl)) (fun _ _ _ h => h) hHeld ?_
                                  refine pz (i := 13) (N := some 83) #[true, true, true, true, true, true, true, true, true, true, true, true, true, true, false, false, false] rfl rfl (any_of HT_.out (by kernel_rfl)) (fun _ _ _ h => h) ?_
                                  refine one_ (i := 14) (N := some 84) #[true, true, true, true, true, true, true, true, true, true, true, true, true, true, true, false, false] rfl rfl (one_of HT_.out (by kernel_rfl)) (by decide) (fun K hK => ?_)
                                  refine value_ (w1 := ?_) (v := ?_) (by rfl) rfl ?_ ?_
                                  rotate_left 2
                                  · go_simp
                                    constructor
                                    · rfl
                                    · rfl
                                  refine hK.out _ _ ⟨(World.cell?_alloc_lt _ _ _ (World.block_lt_of_cell? _ _ (((HB.out.cell (World.block_lt_of_cell? w _ hw230_0)).trans hw230_0)))).trans (((HB.out.cell (World.block_lt_of_cell? w _ hw230_0)).trans hw230_0)), (World.cell?_alloc_lt _ _ _ (World.block_lt_of_cell? _ _ (((HB.out.cell (World.block_lt_of_cell? w _ hw230_1)).trans hw230_1)))).trans (((HB.out.cell (World.block_lt_of_cell? w _ hw230_1)).trans hw230_1)), (World.cell?_alloc_lt _ _ _ (World.block_lt_of_cell? _ _ (((HB.out.cell (World.block_lt_of_cell? w _ hw231_0)).trans hw231_0)))).trans (((HB.out.cell (World.block_lt_of_cell? w _ hw231_0)).trans hw231_0)), (World.cell?_alloc_lt _ _ _ (World.block_lt_of_cell? _ _ (((HB.out.cell (World.block_lt_of_cell? w _ hw231_1)).trans hw231_1)))).trans (((HB.out.cell (World.block_lt_of_cell? w _ hw231_1)).trans hw231_1))⟩ (fun hHeld => ?_)
                                  clear hK K
                                  refine norm_ (a' := ?_) ?_ ?_
                                  rotate_left
                                  · show Act.put _ (some 84) _ = _
                                    simp only [Act.put, List.setIfInBounds_toArray, List.set_cons_zero, List.set_cons_succ, i64_w, i32_w]
                                    rfl
                                  refine one_ (i := 15) (N := some 85) #[true, true, true, true, true, true, true, true, true, true, true, true, true, true, true, true, false] rfl rfl (one_of HT_.out (by kernel_rfl)) (by decide) (fun K hK => ?_)
                                  refine Kd.R_append_step k43 (w0 := w) w.heap.size (by rfl) (.tmp 70) (.tmp 84) 30 43 (.agg #[(.int .i64 0), (.int .i64 0)]) 16 rfl Try.underlying30 info43 rfl (by decide) (by omega) u7 x7_2 (⟨wrap64 (((rd_T50 l0 (ji19)).f0) - ((rd_T50 l0 x9_2).f0)), (rd_T50 l0 x9_2).f1⟩ : S43) [.int .i64 (wrap64 (((rd_T50 l0 (ji19)).f0) - ((rd_T50 l0 x9_2).f0))), .int .i64 ((rd_T50 l0 x9_2).f1)] (fun _ => True) (fun _ => False) rfl rfl ?aP (fun _ hk => hk.elim) ?aF ?aO ?aB ?aS ?aL ?_
                                  (case aP => exact k43_mkM _ _ _ (⟨wrap64 (((rd_T50 l0 (ji19)).f0) - ((rd_T50 l0 x9_2).f0)), (rd_T50 l0 x9_2).f1⟩ : S43))
                                  (case aB => exact (hq HB))
                                  (case aF => exact (fun _ _ => trivial))
                                  (case aO => exact (kq HO_7))
                                  (case aS => exact (below_size (hq HB)))
                                  (case aL => have := LMc25.out; omega)
                                  intro v233 w27 ho hb hg hat
                                  rw [← Ny232.out] at ho
                                  have HO234 := Aside0.mk (ho)
                                  replace HB := Aside0.mk (hb)
                                  clear HO_7
                                  clear ho hb hg hat
                                  refine hK.out _ _ ⟨((HB.out.cell (World.block_lt_of_cell? w _ hw230_0)).trans hw230_0), ((HB.out.cell (World.block_lt_of_cell? w _ hw230_1)).trans hw230_1), ((HB.out.cell (World.block_lt_of_cell? w _ hw231_0)).trans hw231_0), ((HB.out.cell (World.block_lt_of_cell? w _ hw231_1)).trans hw231_1)⟩ (fun hHeld => ?_)
                                  clear hK K
                                  refine norm_ (a' := ?_) ?_ ?_
                                  rotate_left
                                  · show Act.put _ (some 85) _ = _
                                    simp only [Act.put, List.setIfInBounds_toArray, List.set_cons_zero, List.set_cons_succ, i64_w, i32_w]
                                    rfl
                                  refine pz (i := 16) (N := some 7) #[true, true, true, true, true, true, true, true, true, true, true, true, true, true, true, true, true] rfl rfl (any_of HT_.out (by kernel_rfl)) (fun _ _ _ h => h) ?_
                                  refine done_ (done_of HT_.out (by kernel_rfl)) ?_
                                  try go_wp2
                                  go_roundg kj13
                                  case measure => have := HJ4.out; have := HK2.out; have := HJ13.out; omega
                                  case rel => exact ⟨(y232), (ji19), (by first | rfl | (simp; done) | (simp only [← hji19] <;> (first | rfl | simp)) | (simp [*]; done)), H', ⟨by have := HJ4.out; have := HK2.out; have := HJ13.out; omega⟩, ⟨by (with_reducible repeat (first | apply Kd.R_alloc | apply Kd.R_drewN | apply Kd.R_drew)); exact HO234.out⟩, ⟨hq HB⟩⟩
                                · rw [if_neg c25] at H
                                  exact absurd H (by simp)
                              · rw [if_neg c24] at H
                                have c24b0 : decide (((rd_T50 l0 x9_2).f0) < ((rd_T50 l0 (ji19)).f0)) = false := decide_eq_false c24
                                clear c24
                                have H' := Aside0.mk H
                                clear H
                                have p228 : 0 ≤ ((ji19) : Int) := of_decide_eq_true (by first | (with_reducible assumption) | assumption)
                                have q228 : (ji19) < (l0.length : Int) := of_decide_eq_true (by first | (with_reducible assumption) | assumption)
                                obtain ⟨ad228, e228, hx228_0, hx228_1⟩ := at_T50 HR0.out (ji19) p228 q228
                                cases e228
                                replace hx228_0 := (HB.out.cell (World.block_lt_of_cell? w _ hx228_0)).trans hx228_0
                                replace hx228_1 := (HB.out.cell (World.block_lt_of_cell? w _ hx228_1)).trans hx228_1
                                replace p228 := eq_true p228
                                replace q228 := eq_true q228
                                have p229 : 0 ≤ (x9_2 : Int) := of_decide_eq_true (by first | (with_reducible assumption) | assumption)
                                have q229 : x9_2 < (l0.length : Int) := of_decide_eq_true (by first | (with_reducible assumption) | assumption)
                                obtain ⟨ad229, e229, hx229_0, hx229_1⟩ := at_T50 HR0.out x9_2 p229 q229
                                obtain rfl : ad228 = ad229 := (by injection e229)
                                replace hx229_0 := (HB.out.cell (World.block_lt_of_cell? w _ hx229_0)).trans hx229_0
                                replace hx229_1 := (HB.out.cell (World.block_lt_of_cell? w _ hx229_1)).trans hx229_1
                                replace p229 := eq_true p229
                                replace q229 := eq_true q229
                                go_wp2
                                go_roundg kj13
                                case measure => have := HJ4.out; have := HK2.out; have := HJ13.out; omega
                                case rel => exact ⟨(x7_2), (ji19), (by first | rfl | (simp; done) | (simp only [← hji19] <;> (first | rfl | simp)) | (simp [*]; done)), H', ⟨by have := HJ4.out; have := HK2.out; have := HJ13.out; omega⟩, ⟨by (with_reducible repeat (first | apply Kd.R_alloc | apply Kd.R_drewN | apply Kd.R_drew)); exact HO_7.out⟩, ⟨hq HB⟩⟩
                            · rw [if_neg c23] at H
                              exact absurd H (by simp)
                          · rw [if_neg c22] at H
                            exact absurd H (by simp)
                        · rw [if_neg c21] at H
                          exact absurd H (by simp)
                      · rw [if_neg c20] at H
                        exact absurd H (by simp)
                    · replace c18 := Bool.eq_false_iff.mpr c18
                      subst c18
                      have H1 : (if 0 ≤ x9_2 then (if x9_2 < (l0.length : Int) then (if t221 > ((rd_T50 l0 x9_2).f0) then (if x7_2.length < 8796093022208 then (corebankref14_Slices.l0 kj13 l0 (x7_2 ++ [(⟨wrap64 (t221 - ((rd_T50 l0 x9_2).f0)), (rd_T50 l0 x9_2).f1⟩ : S43)]) t221 (wrap64 (x9_2 + 1))) else (none)) else (corebankref14_Slices.l0 kj13 l0 x7_2 t221 (wrap64 (x9_2 + 1)))) else (none)) else (none)) = some r := by rw [if_neg (show ¬ (false = true) by decide)] at H; exact H
                      clear H
                      have H := H1
                      clear H1
                      by_cases c28 : 0 ≤ x9_2
                      · rw [if_pos c28] at H
                        have c28b0 : decide (0 ≤ x9_2) = true := decide_eq_true c28
                        clear c28
                        by_cases c29 : x9_2 < (l0.length : Int)
                        · rw [if_pos c29] at H
                          have c29b0 : decide (x9_2 < (l0.length : Int)) = true := decide_eq_true c29
                          clear c29
                          by_cases c30 : t221 > ((rd_T50 l0 x9_2).f0)
                          · rw [if_pos c30] at H
                            have c30b0 : decide (((rd_T50 l0 x9_2).f0) < t221) = true := decide_eq_true c30
                            clear c30
                            by_cases c31 : x7_2.length < 8796093022208
                            · rw [if_pos c31] at H
                              have LMc31 := Aside0.mk c31
                              clear c31
                              obtain ⟨y238, hy238⟩ : ∃ y_ : List (S43), y_ = (x7_2 ++ [(⟨wrap64 (t221 - ((rd_T50 l0 x9_2).f0)), (rd_T50 l0 x9_2).f1⟩ : S43)]) := ⟨_, rfl⟩
                              replace H : (corebankref14_Slices.l0 kj13 l0 y238 t221 (wrap64 (x9_2 + 1))) = some r := by first | (rw [hy238]; with_reducible exact H) | (have H2_ := (Option.bind_some _ _).symm.trans H; rw [hy238]; with_reducible exact H2_) | (have H2_ := (Option.bind_some _ _).symm.trans H; with_reducible exact H2_) | with_reducible exact H | (rw [hy238]; exact H) | exact H
                              have Ny238 := Aside0.mk hy238
                              clear hy238
                              have H' := Aside0.mk H
                              clear H
                              have p235 : 0 ≤ (x9_2 : Int) := of_decide_eq_true (by first | (with_reducible assumption) | assumption)
                              have q235 : x9_2 < (l0.length : Int) := of_decide_eq_true (by first | (with_reducible assumption) | assumption)
                              obtain ⟨ad235, e235, hx235_0, hx235_1⟩ := at_T50 HR0.out x9_2 p235 q235
                              cases e235
                              replace hx235_0 := (HB.out.cell (World.block_lt_of_cell? w _ hx235_0)).trans hx235_0
                              replace hx235_1 := (HB.out.cell (World.block_lt_of_cell? w _ hx235_1)).trans hx235_1
                              replace p235 := eq_true p235
                              replace q235 := eq_true q235
                              try go_wp2
                              replace HO_7 := Aside0.mk (Kd.R_drew HO_7.out)
                              replace HB := hb1 HB
                              have p236 : 0 ≤ (x9_2 : Int) := of_decide_eq_true (by first | (with_reducible assumption) | assumption)
                              have q236 : x9_2 < (l0.length : Int) := of_decide_eq_true (by first | (with_reducible assumption) | assumption)
                              obtain ⟨ad236, e236, hx236_0, hx236_1⟩ := at_T50 HR0.out x9_2 p236 q236
                              have hw236_1 := hx236_1
                              have hw236_0 := hx236_0
                              obtain rfl : ad235 = ad236 := (by injection e236)
                              replace hx236_0 := (HB.out.cell (World.block_lt_of_cell? w _ hx236_0)).trans hx236_0
                              replace hx236_1 := (HB.out.cell (World.block_lt_of_cell? w _ hx236_1)).trans hx236_1
                              replace p236 := eq_true p236
                              replace q236 := eq_true q236
                              have p237 : 0 ≤ (x9_2 : Int) := of_decide_eq_true (by first | (with_reducible assumption) | assumption)
                              have q237 : x9_2 < (l0.length : Int) := of_decide_eq_true (by first | (with_reducible assumption) | assumption)
                              obtain ⟨ad237, e237, hx237_0, hx237_1⟩ := at_T50 HR0.out x9_2 p237 q237
                              have hw237_1 := hx237_1
                              have hw237_0 := hx237_0
                              obtain rfl : ad235 = ad237 := (by injection e237)
                              replace hx237_0 := (HB.out.cell (World.block_lt_of_cell? w _ hx237_0)).trans hx237_0
                              replace hx237_1 := (HB.out.cell (World.block_lt_of_cell? w _ hx237_1)).trans hx237_1
                              replace p237 := eq_true p237
                              replace q237 := eq_true q237
                              refine start_ (n := 17) (S := fun w' => w'.cell? (ad235.add ((x9_2).toNat * 2)) = some (.int .i64 ((rd_T50 l0 x9_2).f0)) ∧ w'.cell? ⟨(ad235.add ((x9_2).toNat * 2)).block, (ad235.add ((x9_2).toNat * 2)).off + 1, none⟩ = some (.int .i64 ((rd_T50 l0 x9_2).f1)) ∧ w'.cell? (ad235.add ((x9_2).toNat * 2)) = some (.int .i64 ((rd_T50 l0 x9_2).f0)) ∧ w'.cell? ⟨(ad235.add ((x9_2).toNat * 2)).block, (ad235.add ((x9_2).toNat * 2)).off + 1, none⟩ = some (.int .i64 ((rd_T50 l0 x9_2).f1))) (ds := []) #[false, false, false, false, false, false, false, false, false, false, false, false, false, false, false, false, false] (by kernel_rfl) rfl rfl ⟨((HB.out.cell (World.block_lt_of_cell? w _ hw236_0)).trans hw236_0), ((HB.out.cell (World.block_lt_of_cell? w _ hw236_1)).trans hw236_1), ((HB.out.cell (World.block_lt_of_cell? w _ hw237_0)).trans hw237_0), ((HB.out.cell (World.block_lt_of_cell? w _ hw237_1)).trans hw237_1)⟩ (fun hHeld => ?_); refine with_tabW corebankref14_Slices.tab14 corebankref14_Slices.bits14 (fun HT_ HW_ => ?_)
                              generalize wc.drew = w32 at HO_7 HB hx236_0 hx236_1 hx237_0 hx237_1 hHeld ⊢
                              refine pz (i := 0) (N := some 70) #[true, false, false, false, false, false, false, false, false, false, false, false, false, false, false, false, false] rfl rfl (any_of HT_.out (by kernel_rfl)) (fun _ _ _ h => h) ?_
                              refine pz (i := 1) (N := some 71) #[true, true, false, false, false, false, false, false, false, false, false, false, false, false, false, false, false] rfl rfl (any_of HT_.out (by kernel_rfl)) (fun _ _ _ h => h) ?_
                              refine pz (i := 2) (N := some 72) #[true, true, true, false, false, false, false, false, false, false, false, false, false, false, false, false, false] rfl rfl (any_of HT_.out (by kernel_rfl)) (fun _ _ _ h => h) ?_
                              refine pz (i := 3) (N := some 73) #[true, true, true, true, false, false, false, false, false, false, false, false, false, false, false, false, false] rfl rfl (any_of HT_.out (by kernel_rfl)) (fun _ _ _ h => h) ?_
                              refine pz (i := 4) (N := some 74) #[true, true, true, true, true, false, false, false, false, false, false, false, false, false, false, false, false] rfl rfl (any_of HT_.out (by kernel_rfl)) (fun _ _ _ h => h) ?_
                              refine pz (i := 5) (N := some 75) #[true, true, true, true, true, true, false, false, false, false, false, false, false, false, false, false, false] rfl rfl (any_of HT_.out (by kernel_rfl)) (fun _ _ _ h => h) ?_
                              refine pz (i := 8) (N := some 78) #[true, true, true, true, true, true, false, false, true, false, false, false, false, false, false, false, false] rfl rfl (any_of HT_.out (by kernel_rfl)) (fun _ _ _ h => h) ?_
                              refine pz (i := 9) (N := some 79) #[true, true, true, true, true, true, false, false, true, true, false, false, false, false, false, false, false] rfl rfl (any_of HT_.out (by kernel_rfl)) (fun _ _ _ h => h) ?_
                              refine pz (i := 10) (N := some 80) #[true, true, true, true, true, true, false, false, true, true, true, false, false, false, false, false, false] rfl rfl (any_of HT_.out (by kernel_rfl)) (fun _ _ _ h => h) ?_
                              refine pz (i := 11) (N := some 81) #[true, true, true, true, true, true, false, false, true, true, true, true, false, false, false, false, false] rfl rfl (any_of HT_.out (by kernel_rfl)) (fun _ _ _ h => h) ?_
                              refine tz4 (i := 6) (N := some 76) #[true, true, true, true, true, true, true, false, true, true, true, true, false, false, false, false, false] rfl rfl (take_ofW HT_.out HW_.out (by kernel_rfl)) (fun _ _ _ h => h) hHeld ?_
                              refine pz (i := 7) (N := some 77) #[true, true, true, true, true, true, true, true, true, true, true, true, false, false, false, false, false] rfl rfl (any_of HT_.out (by kernel_rfl)) (fun _ _ _ h => h) ?_
                              refine tz4 (i := 12) (N := some 82) #[true, true, true, true, true, true, true, true, true, true, true, true, true, false, false, false, false] rfl rfl (take_ofW HT_.out HW_.out (by kernel_rfl)) (fun _ _ _ h => h) hHeld ?_
                              refine pz (i := 13) (N := some 83) #[true, true, true, true, true, true, true, true, true, true, true, true, true, true, false, false, false] rfl rfl (any_of HT_.out (by kernel_rfl)) (fun _ _ _ h => h) ?_
                              refine one_ (i := 14) (N := some 84) #[true, true, true, true, true, true, true, true, true, true, true, true, true, true, true, false, false] rfl rfl (one_of HT_.out (by kernel_rfl)) (by decide) (fun K hK => ?_)
                              refine value_ (w1 := ?_) (v := ?_) (by rfl) rfl ?_ ?_
                              rotate_left 2
                              · go_simp
                                constructor
                                · rfl
                                · rfl
                              refine hK.out _ _ ⟨(World.cell?_alloc_lt _ _ _ (World.block_lt_of_cell? _ _ (((HB.out.cell (World.block_lt_of_cell? w _ hw236_0)).trans hw236_0)))).trans (((HB.out.cell (World.block_lt_of_cell? w _ hw236_0)).trans hw236_0)), (World.cell?_alloc_lt _ _ _ (World.block_lt_of_cell? _ _ (((HB.out.cell (World.block_lt_of_cell? w _ hw236_1)).trans hw236_1)))).trans (((HB.out.cell (World.block_lt_of_cell? w _ hw236_1)).trans hw236_1)), (World.cell?_alloc_lt _ _ _ (World.block_lt_of_cell? _ _ (((HB.out.cell (World.block_lt_of_cell? w _ hw237_0)).trans hw237_0)))).trans (((HB.out.cell (World.block_lt_of_cell? w _ hw237_0)).trans hw237_0)), (World.cell?_alloc_lt _ _ _ (World.block_lt_of_cell? _ _ (((HB.out.cell (World.block_lt_of_cell? w _ hw237_1)).trans hw237_1)))).trans (((HB.out.cell (World.block_lt_of_cell? w _ hw237_1)).trans hw237_1))⟩ (fun hHeld => ?_)
                              clear hK K
                              refine norm_ (a' := ?_) ?_ ?_
                              rotate_left
                              · show Act.put _ (some 84) _ = _
                                simp only [Act.put, List.setIfInBounds_toArray, List.set_cons_zero, List.set_cons_succ, i64_w, i32_w]
                                rfl
                              refine one_ (i := 15) (N := some 85) #[true, true, true, true, true, true, true, true, true, true, true, true, true, true, true, true, false] rfl rfl (one_of HT_.out (by kernel_rfl)) (by decide) (fun K hK => ?_)
                              refine Kd.R_append_step k43 (w0 := w) w.heap.size (by rfl) (.tmp 70) (.tmp 84) 30 43 (.agg #[(.int .i64 0), (.int .i64 0)]) 16 rfl Try.underlying30 info43 rfl (by decide) (by omega) u7 x7_2 (⟨wrap64 (t221 - ((rd_T50 l0 x9_2).f0)), (rd_T50 l0 x9_2).f1⟩ : S43) [.int .i64 (wrap64 (t221 - ((rd_T50 l0 x9_2).f0))), .int .i64 ((rd_T50 l0 x9_2).f1)] (fun _ => True) (fun _ => False) rfl rfl ?aP (fun _ hk => hk.elim) ?aF ?aO ?aB ?aS ?aL ?_
                              (case aP => exact k43_mkM _ _ _ (⟨wrap64 (t221 - ((rd_T50 l0 x9_2).f0)), (rd_T50 l0 x9_2).f1⟩ : S43))
                              (case aB => exact (hq HB))
                              (case aF => exact (fun _ _ => trivial))
                              (case aO => exact (kq HO_7))
                              (case aS => exact (below_size (hq HB)))
                              (case aL => have := LMc31.out; omega)
                              intro v239 w33 ho hb hg hat
                              rw [← Ny238.out] at ho
                              have HO240 := Aside0.mk (ho)
                              replace HB := Aside0.mk (hb)
                              clear HO_7
                              clear ho hb hg hat
                              refine hK.out _ _ ⟨((HB.out.cell (World.block_lt_of_cell? w _ hw236_0)).trans hw236_0), ((HB.out.cell (World.block_lt_of_cell? w _ hw236_1)).trans hw236_1), ((HB.out.cell (World.block_lt_of_cell? w _ hw237_0)).trans hw237_0), ((HB.out.cell (World.block_lt_of_cell? w _ hw237_1)).trans hw237_1)⟩ (fun hHeld => ?_)
                              clear hK K
                              refine norm_ (a' := ?_) ?_ ?_
                              rotate_left
                              · show Act.put _ (some 85) _ = _
                                simp only [Act.put, List.setIfInBounds_toArray, List.set_cons_zero, List.set_cons_succ, i64_w, i32_w]
                                rfl
                              refine pz (i := 16) (N := some 7) #[true, true, true, true, true, true, true, true, true, true, true, true, true, true, true, true, true] rfl rfl (any_of HT_.out (by kernel_rfl)) (fun _ _ _ h => h) ?_
                              refine done_ (done_of HT_.out (by kernel_rfl)) ?_
                              try go_wp2
                              go_roundg kj13
                              case measure => have := HJ4.out; have := HK2.out; have := HJ13.out; omega
                              case rel => exact ⟨(y238), (wrap64 (x9_2 + 1)), (by first | rfl | (simp; done) | (simp [*]; done)), H', ⟨by have := HJ4.out; have := HK2.out; have := HJ13.out; omega⟩, ⟨by (with_reducible repeat (first | apply Kd.R_alloc | apply Kd.R_drewN | apply Kd.R_drew)); exact HO240.out⟩, ⟨hq HB⟩⟩
                            · rw [if_neg c31] at H
                              exact absurd H (by simp)
                          · rw [if_neg c30] at H
                            have c30b0 : decide (((rd_T50 l0 x9_2).f0) < t221) = false := decide_eq_false c30
                            clear c30
                            have H' := Aside0.mk H
                            clear H
                            have p235 : 0 ≤ (x9_2 : Int) := of_decide_eq_true (by first | (with_reducible assumption) | assumption)
                            have q235 : x9_2 < (l0.length : Int) := of_decide_eq_true (by first | (with_reducible assumption) | assumption)
                            obtain ⟨ad235, e235, hx235_0, hx235_1⟩ := at_T50 HR0.out x9_2 p235 q235
                            cases e235
                            replace hx235_0 := (HB.out.cell (World.block_lt_of_cell? w _ hx235_0)).trans hx235_0
                            replace hx235_1 := (HB.out.cell (World.block_lt_of_cell? w _ hx235_1)).trans hx235_1
                            replace p235 := eq_true p235
                            replace q235 := eq_true q235
                            go_wp2
                            go_roundg kj13
                            case measure => have := HJ4.out; have := HK2.out; have := HJ13.out; omega
                            case rel => exact ⟨(x7_2), (wrap64 (x9_2 + 1)), (by first | rfl | (simp; done) | (simp [*]; done)), H', ⟨by have := HJ4.out; have := HK2.out; have := HJ13.out; omega⟩, ⟨by (with_reducible repeat (first | apply Kd.R_alloc | apply Kd.R_drewN | apply Kd.R_drew)); exact HO_7.out⟩, ⟨hq HB⟩⟩
                        · rw [if_neg c29] at H
                          exact absurd H (by simp)
                      · rw [if_neg c28] at H
                        exact absurd H (by simp)
              · rw [if_neg c13] at H
                have c13b0 : decide (x9_2 < (l0.length : Int)) = false := decide_eq_false c13
                clear c13
                obtain rfl := Option.some.inj H
                go_wp2
                go_ret
                exact ⟨_, by first | rfl | (simp [errW_none, errW_some] <;> rfl) | (simp [*, errW_none, errW_some] <;> rfl), by (with_reducible repeat (first | apply Kd.R_alloc | apply Kd.R_drewN | apply Kd.R_drew)); exact HO_7.out, hq HB⟩
        · replace c12 := Bool.eq_false_iff.mpr c12
          subst c12
          have H1 : ((corebankref14_Rate.f kj4 l0 a2).bind fun t223 => (some (([(⟨t221, t223⟩ : S43)] : List (S43))))) = some r := by rw [if_neg (show ¬ (false = true) by decide)] at H; exact H
          clear H
          have H := H1
          clear H1
          replace H := Option.bind_eq_some_iff.mp H
          obtain ⟨t223, A340, H⟩ := H
          replace H : (some (([(⟨t221, t223⟩ : S43)] : List (S43)))) = some r := H
          have A34 := Aside0.mk A340
          clear A340
          obtain ⟨y224, hy224⟩ : ∃ y_ : List (S43), y_ = (([(⟨t221, t223⟩ : S43)] : List (S43))) := ⟨_, rfl⟩
          replace H : (some y224) = some r := by first | (rw [hy224]; with_reducible exact H) | (have H2_ := (Option.bind_some _ _).symm.trans H; rw [hy224]; with_reducible exact H2_) | (have H2_ := (Option.bind_some _ _).symm.trans H; with_reducible exact H2_) | with_reducible exact H | (rw [hy224]; exact H) | exact H
          have Ny224 := Aside0.mk hy224
          clear hy224
          obtain rfl := Option.some.inj H
          go_wp2_with (first | ((with_reducible refine gate_callee (f := 20) rfl ?_); refine goesL_ (some 32) rfl rfl Try.func20 (by kernel_rfl) rfl #[.slice A0 l0.length c0, .int .i64 a2] rfl zm ?_; (with_reducible refine (corebankref14_Rate.calls kj4 _ _ l0 a2 t223 _ ?side1 ?side2 A34.out).mono ?_); (case side1 => repeat (first | exact (Kd.C_below HR0.out HB.out) | (with_reducible refine Kd.C_alloc ?_ _) | (with_reducible refine Kd.C_drewN ?_ _) | (with_reducible refine Kd.C_drew ?_))); (case side2 => exact HC0.out); rintro e w' ⟨rfl, ⟨nd, rfl⟩⟩; refine ⟨_, rfl, ?_⟩) | ((with_reducible refine gate_dst (N := 34) rfl ?_); (try (refine gate_guard (by rfl) ?_; dsimp only)); refine Kd.R_lit k43 _ 43 ?hg (N := 34) ?hd (xs := ([(⟨t221, t223⟩ : S43)] : List (S43))) (inner := [.int .i64 t221, .int .i64 t223]) (ok := fun _ => True) (okp := fun _ => True) ?hr ?hp (fun _ hk => hk) trivial (Below.refl _ _) (Nat.le_refl _) (by simp) ?_; (case hd => rfl); (case hg => rfl); (case hr => first | (go_simp; done) | (go_simp; rfl)); (case hp => exact (Reps.c2 (show Kd.M k43 _ _ _ (⟨t221, t223⟩ : S43) [.int .i64 t221, .int .i64 t223] from (k43_mkM _ _ _ (⟨t221, t223⟩ : S43) )) (Reps.none _ _))); intro v225 w35 ho36 hb hg_ hnew_; clear hg_ hnew_; (first | rw [← Ny224.out] at ho36 | (simp only [Int.reduceToNat] at ho36; rw [← Ny224.out] at ho36)); have HO226 := Aside0.mk (Kd.R_lower (Kd.R_new' ho36 (Kd.R_lt (kq HO_7))) (below_size (hq HB))); replace HO_7 := Aside0.mk (Kd.R_elder' (kq HO_7) (Kd.R_base ho36) hb); replace HB := bs HB hb; clear hb ho36))
          go_ret
          exact ⟨_, by first | rfl | (simp [errW_none, errW_some] <;> rfl) | (simp [*, errW_none, errW_some] <;> rfl), by (with_reducible repeat (first | apply Kd.R_alloc | apply Kd.R_drewN | apply Kd.R_drew)); exact Kd.R_mono HO226.out (fun _ hk => trivial), hq HB⟩

end Go.Proofs.Ytlmabdiodopidaa.P
