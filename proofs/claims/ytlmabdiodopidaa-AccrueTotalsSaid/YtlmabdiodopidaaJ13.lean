/- Texts of this seat, joined: Ser, SamA, Box, Live27, RTot, LawTot, PureV, PureG, PureWA, PTot, Tacc. Lemmas for the claim's theorem. -/
import Derived.OwnWalk
import Derived.Deep.RegionHeld3
import Derived.Laws.BitsAllLaws
import Derived.Test.YtlmabdiodopidaaJ12
section
namespace Go.Proofs.Ytlmabdiodopidaa.G
set_option maxRecDepth 100000
open Go.RowKit Go.Proofs.YtlmabdiodopidaaW.PrintWords Go.Proofs.YtlmabdiodopidaaW.PrintLast Go.Proofs.YtlmabdiodopidaaW.PrintMore Go.Proofs.Ytlmabdiodopidaa.P
/-- days from a day to a day, that are not too many -/
def serOk (f t : Int) : Bool := vd f && (vd t && (decide (f ≤ t) && decide (t - f < 4000)))
/-- the accrual of a day -/
def IsAcc (b : Bk) (id day : Int) (x : S66) : Prop := x.f0 = id ∧ x.f1 = day ∧ DayIs b id day x.f2 x.f3.f0 x.f3.f1 x.f4.f0 x.f4.f1
/-- the accruals of the first days from f on -/
def AccTo (b : Bk) (id f : Int) (l : List S66) : Prop := ∀ i (h : i < l.length), IsAcc b id (f + i) l[i]
/-- what Series answers -/
def SerAns (b : Bk) (id f t : Int) (l : List S66) (e : Int) : Prop :=
  ((findA id b.accs).2 = false ∧ l = [] ∧ e = 11) ∨ ((findA id b.accs).2 = true ∧ serOk f t = false ∧ l = [] ∧ e = 1) ∨
  ((findA id b.accs).2 = true ∧ serOk f t = true ∧ (l.length : Int) = t - f + 1 ∧ AccTo b id f l ∧ e = 0)
theorem vd_bd {d : Int} (h : vd d = true) : 0 ≤ d ∧ d ≤ 73048 := by
  unfold vd at h
  simpa using h
theorem serOk_all {f t : Int} (h : serOk f t = true) : vd f = true ∧ vd t = true ∧ f ≤ t ∧ t - f < 4000 := by
  unfold serOk at h
  simpa using h
theorem valid_any (day : Int) (w : World) : Calls Try.prog 52 #[.int .i64 day] w fun e w' => e = .returned (.bool (vd day)) ∧ Drawn0 w w' := date_Valid.calls day (vd day) w (vd_f day)
set_option maxHeartbeats 2000000 in
theorem series_calls (cs : List Value) (b : Bk) (id f t : Int) (l : List S66) (er : Int) (w0 w : World) (hb0 : Below w0.heap.size w0 w) (hk : kBk.K w0 b cs) (hf : FewT b.prods) (hd : SerAns b id f t l er) :
    Calls Try.prog 33 #[.agg cs.toArray, .int .i64 id, .int .i64 f, .int .i64 t] w fun e w' => ∃ v, e = .returned (.tuple #[v, .int .i64 er]) ∧ Kd.R k66 66 w' w.heap.size (fun _ => True) v l ∧ Below w.heap.size w w' := by
  obtain ⟨A1, c1, A2, c2, A3, c3, hl, -, -, -, -, -, -, -, -, -⟩ := bk_get hk
  have HB0 := Aside0.mk hb0
  have HK := Aside0.mk hk
  have HL := Aside0.mk hl
  have HF := Aside0.mk hf
  have HD := Aside0.mk hd
  clear hb0 hk hl hf hd
  have HW := Aside0.mk ((Below.refl w.heap.size w).alloc (Nat.le_refl _) (.cells cs.toArray 63))
  have K0 := Aside0.mk (Blk.new w cs 63)
  go_enter Try.func33, Try.ntmps33
  go_upto_region 2 with (first
    | (refine ld_rng rfl 63 _ rfl (p := ⟨w.heap.size, 0, none⟩) rfl (cs := cs) K0.out.rng Try.underlying63 rfl ?_ ?_; (rw [HL.out]; kernel_rfl))
    | (go_at_call 51; refine (find_calls cs b id w0 _ (bstep HB0.out HW.out) HK.out).mono ?_; rintro e w1 ⟨ca, rfl, hca, hb1⟩; have CA := Aside0.mk hca; have CL := Aside0.mk (acc_get hca).1; have K1 := Aside0.mk ((K0.out.below hb1).alloc (.cells ca.toArray 101)); have HW1 := Aside0.mk ((bstep HW.out hb1).alloc (bstep HW.out hb1).size (.cells ca.toArray 101)); clear hb1 hca)
    | (refine st_new rfl 101 _ _ rfl rfl (cs := zAccs) (vs := ca) rfl rfl CL.out ?_ (kAcc.K_one CA.out) ?_; (rw [CL.out]; kernel_rfl)))
  clear HW K0
  generalize w1.alloc (.cells ca.toArray 101) = W1 at *
  generalize w1.heap.size = Ba at *
  have hd := HD.out
  unfold SerAns at hd
  generalize (findA id b.accs).2 = is at *
  clear HD CA
  rcases hd with ⟨rfl, rfl, rfl⟩ | ⟨rfl, hv, rfl, rfl⟩ | ⟨rfl, hv, hlen, hacc, rfl⟩
  · go_wp2
    go_ret2
    exact ⟨_, rfl, ⟨by simp [Value.ownBlock], [], ⟨rfl, .inl ⟨rfl, rfl⟩⟩, Reps.none _ _⟩, HW1.out⟩
  · unfold serOk at hv
    cases c1 : vd f
    · clear hv
      go_wp2_with (first | (go_at_call 52; refine (valid_any _ _).mono ?_; rintro e w2 ⟨rfl, ⟨nd, rfl⟩⟩))
      go_ret2
      refine ⟨_, rfl, ⟨by simp [Value.ownBlock], [], ⟨rfl, .inl ⟨rfl, rfl⟩⟩, Reps.none _ _⟩, ?_⟩
      repeat (first | exact HW1.out | refine pw_below_drewN ?_ _)
    · cases c2 : vd t
      · clear hv
        go_wp2_with (first | (go_at_call 52; refine (valid_any _ _).mono ?_; rintro e w2 ⟨rfl, ⟨nd, rfl⟩⟩))
        go_ret2
        refine ⟨_, rfl, ⟨by simp [Value.ownBlock], [], ⟨rfl, .inl ⟨rfl, rfl⟩⟩, Reps.none _ _⟩, ?_⟩
        repeat (first | exact HW1.out | refine pw_below_drewN ?_ _)
      · have bf := vd_bd c1
        have bt := vd_bd c2
        by_cases q3 : f ≤ t
        · have q4 : ¬ t - f < 4000 := by
            intro q
            rw [c1, c2] at hv
            simp [q3] at hv
            omega
          clear hv
          go_wp2_with (first | (go_at_call 52; refine (valid_any _ _).mono ?_; rintro e w2 ⟨rfl, ⟨nd, rfl⟩⟩))
          go_ret2
          refine ⟨_, rfl, ⟨by simp [Value.ownBlock], [], ⟨rfl, .inl ⟨rfl, rfl⟩⟩, Reps.none _ _⟩, ?_⟩
          repeat (first | exact HW1.out | refine pw_below_drewN ?_ _)
        · clear hv
          go_wp2_with (first | (go_at_call 52; refine (valid_any _ _).mono ?_; rintro e w2 ⟨rfl, ⟨nd, rfl⟩⟩))
          go_ret2
          refine ⟨_, rfl, ⟨by simp [Value.ownBlock], [], ⟨rfl, .inl ⟨rfl, rfl⟩⟩, Reps.none _ _⟩, ?_⟩
          repeat (first | exact HW1.out | refine pw_below_drewN ?_ _)
  · obtain ⟨c1, c2, q3, q4⟩ := serOk_all hv
    have bf := vd_bd c1
    have bt := vd_bd c2
    have ACC := Aside0.mk hacc
    have LEN := Aside0.mk hlen
    clear hv hacc hlen
    go_upto_region 6 with (first | (go_at_call 52; refine (valid_any _ _).mono ?_; rintro e w2 ⟨rfl, ⟨nd, rfl⟩⟩))
    generalize (_ : Nat) + nd = m
    have K2 := Aside0.mk (K1.out.drewN (n := m))
    have HW2 := Aside0.mk (pw_below_drewN HW1.out m)
    generalize W1.drewN m = W2 at *
    clear K1 HW1
    obtain ⟨i0, hi, hz0, hz1, hz2⟩ := info_parts (show (Try.prog.info? 66).map (fun i => (i.zero, i.size, i.bytes)) = some (some (.agg (acL 0 0 0 0 0 0 0).toArray), 7, 56) by kernel_rfl)
    have INF := Aside0.mk (And.intro hi (And.intro hz0 (And.intro hz1 hz2)))
    clear hi hz0 hz1 hz2
    have hn0 : t - f + 1 = ((t - f + 1).toNat : Int) := by omega
    have HN0 := Aside0.mk hn0
    have hlx : (l.length : Int) = t - f + 1 := LEN.out
    have hlen2 : l.length ≤ 4000 := by omega
    have L2 := Aside0.mk hlen2
    clear hn0 hlx
    go_wp2_with (first
      | (refine ld_rng rfl 63 _ rfl (p := ⟨w.heap.size, 0, none⟩) rfl (cs := cs) K2.out.rng Try.underlying63 rfl ?_ ?_; (rw [HL.out]; kernel_rfl))
      | (go_at_call 53; refine (daily_calls cs _ _).mono ?_; rintro e w3 ⟨rfl, rfl⟩)
      | (refine wpList_make_own _ rfl _ _ 70 rfl ((W2.alloc (.cells cs.toArray 63)).alloc (.cells #[.int .i64 id] 3)).heap.size 66 i0 (.agg (acL 0 0 0 0 0 0 0).toArray) 7 Try.underlying70 INF.out.1 INF.out.2.1 INF.out.2.2.1 .i64 .i64 _ (t - f + 1).toNat rfl rfl HN0.out ?mk1 ?mk2 (Nat.le_refl _) ?_; (case mk1 => rw [INF.out.2.2.2]; omega); (case mk2 => unfold maxLen; omega); intro w4 hown hgrow))
    have I3 := Blk.newAt (W2.alloc (.cells cs.toArray 63)) (g := W2.heap.size + 1) (by simp) [.int .i64 id] 3
    have K3 := (Blk.new W2 cs 63).alloc (.cells #[.int .i64 id] 3)
    have hW3 := (HW2.out.alloc HW2.out.size (.cells cs.toArray 63)).alloc (HW2.out.alloc HW2.out.size (.cells cs.toArray 63)).size (.cells #[.int .i64 id] 3)
    have hsz : ((W2.alloc (.cells cs.toArray 63)).alloc (.cells #[.int .i64 id] 3)).heap.size = W2.heap.size + 2 := by simp
    have hNN : ((W2.alloc (.cells cs.toArray 63)).alloc (.cells #[.int .i64 id] 3)).heap.size = W2.heap.size + 1 + 1 := by simp
    generalize hW3g : (W2.alloc (.cells cs.toArray 63)).alloc (.cells #[.int .i64 id] 3) = W3 at *
    clear hW3g
    obtain ⟨N, hN⟩ : ∃ N, N = W2.heap.size + 1 + 1 := ⟨_, rfl⟩
    rw [hNN] at hown hsz
    rw [← hN] at hown hNN
    have HN := Aside0.mk hNN
    clear hNN
    have hb4 : Below N W3 w4 := (Below.refl N W3).grown hgrow (by rw [HN.out]; exact Nat.le_refl _) (fun k e => by cases e)
    have I4 := Aside0.mk (I3.belowN hb4 (by omega))
    have K4 := Aside0.mk (K3.belowN hb4 (by omega))
    have HW4 := Aside0.mk (hW3.trans (hb4.mono (by have := hW3.size; rw [HN.out] at this; omega)))
    have R4 : Kd.R k66 66 w4 N (fun _ => True) (.slice (some ⟨N, 0, none⟩) 0 (t - f + 1).toNat) [] := ⟨fun _ _ => trivial, [], hown, Reps.none _ _⟩
    have R4 := Aside0.mk R4
    have HN4 := Aside0.mk (show N ≤ w4.heap.size by have := hb4.size; rw [HN.out] at this; exact this)
    clear hown hgrow I3 K3 hW3 hsz hb4
    subst hN
    go_loopw [13, 14] (fun ov dv wr => ∃ (x : Nat), x ≤ l.length ∧ dv = .int .i64 (f + x) ∧ Aside0 (Kd.R k66 66 wr (W2.heap.size + 1 + 1) (fun _ => True) ov (l.take x)) ∧ Aside0 (Below (W2.heap.size + 1 + 1) w4 wr)) (fun _ dv _ => (t + 1 - intOf dv).toNat)
    case atStart => exact ⟨0, by omega, by simp, R4, ⟨Below.refl _ _⟩⟩
    case round =>
      obtain ⟨x, k1, rfl, hR, hB⟩ := hrel
      have hll : (l.length : Int) = t - f + 1 := LEN.out
      have SZ := Aside0.mk (show W2.heap.size + 1 + 1 ≤ wr.heap.size from Nat.le_trans HN4.out hB.out.size)
      by_cases hlt : x < l.length
      · have hle : f + x ≤ t := by omega
        have h73 : f + x ≤ 73048 := by omega
        obtain ⟨a0, a1, hdi⟩ := ACC.out x hlt
        have hM : ∀ W, Kd.M k66 W (W2.heap.size + 1 + 1) (fun _ => False) l[x] (acL id (f + x) l[x].f2 l[x].f3.f0 l[x].f3.f1 l[x].f4.f0 l[x].f4.f1) := fun W => by
          have := k66_mkM W (W2.heap.size + 1 + 1) (fun _ => False) l[x]
          rw [a0, a1] at this
          exact this
        have HM := Aside0.mk hM
        have HDI := Aside0.mk hdi
        have htk : l.take (x + 1) = l.take x ++ [l[x]] := List.take_succ_eq_append_getElem hlt
        have TK := Aside0.mk htk
        have I5 := Aside0.mk (I4.out.belowN hB.out (by omega))
        have K5 := Aside0.mk (K4.out.belowN hB.out (by omega))
        have HW5 := Aside0.mk (HW4.out.trans (hB.out.mono (by have := HW2.out.size; omega)))
        have hlx : (l.take x).length ≤ 4000 := by have := L2.out; rw [List.length_take]; omega
        have LX56 := Aside0.mk (show ((l.take x).length + 1) * 56 ≤ 140737488355328 by omega)
        clear a0 a1 hdi hM htk hll hlx
        generalize l[x] = xx at *
        go_wp2_with (first
          | (go_at_call 75; refine (daily1_calls cs b id (f + x) xx.f2 xx.f3.f0 xx.f3.f1 xx.f4.f0 xx.f4.f1 (W2.heap.size + 1) W2.heap.size w0 _ (bstep HB0.out HW5.out) HK.out I5.out K5.out HF.out HDI.out).mono ?_; rintro e w6 ⟨rfl, hb6⟩; have R6 := Aside0.mk (Kd.R_below hR.out hb6); have HB6 := Aside0.mk (hB.out.trans (hb6.mono SZ.out)); have SZ6 := Aside0.mk (Nat.le_trans SZ.out hb6.size); clear hb6)
          | (at_builtin; refine Kd.R_append k66 (W2.heap.size + 1 + 1) rfl _ _ 70 66 (.agg (acL 0 0 0 0 0 0 0).toArray) 56 rfl Try.underlying70 (by kernel_rfl) rfl (by decide) (by decide) u13 (l.take x) xx (acL id (f + x) xx.f2 xx.f3.f0 xx.f3.f1 xx.f4.f0 xx.f4.f1) (fun _ => True) (fun _ => False) rfl rfl (HM.out _) (fun _ h => h.elim) (fun _ _ => trivial) R6.out HB6.out SZ6.out ?_ ?_; (exact LX56.out); intro v7 w7 hR7 hB7 hg7 hat7))
        refine ⟨⟨x + 1, by omega, by congr 1; omega, ⟨by rw [TK.out]; exact hR7⟩, ⟨hB7⟩⟩, ?_⟩
        simp [intOf]
        omega
      · have hle : ¬ f + x ≤ t := by omega
        have hxl : l.take x = l := List.take_of_length_le (by omega)
        have HR := hR.out
        rw [hxl] at HR
        have HRR := Aside0.mk HR
        clear HR hxl
        have hws := HW2.out.size
        go_wp2
        go_ret2
        exact ⟨_, rfl, Kd.R_lower HRR.out (by omega), HW4.out.trans (hB.out.mono (by omega))⟩
end Go.Proofs.Ytlmabdiodopidaa.G
end
section
namespace Go.Proofs.Ytlmabdiodopidaa.G
set_option maxRecDepth 100000
open Go.RowKit Go.Proofs.YtlmabdiodopidaaW.PrintWords Go.Proofs.YtlmabdiodopidaaW.PrintLast Go.Proofs.YtlmabdiodopidaaW.PrintMore Go.Proofs.Ytlmabdiodopidaa.P
/-- the interest of a day, checked -/
def grOk (x : Intr) (bal day hi lo : Int) : Bool :=
  match tier_Slices.f 200 x.tiers x.marg bal, daycount_Weight.f 200 x.basis day with
  | some sl, some wt => match tier_Grains.f 200 sl wt with
    | some (g1, g2, e) => decide (hi = gz e g1) && decide (lo = gz e g2)
    | none => false
  | _, _ => false
theorem gr_of {x : Intr} {bal day hi lo : Int} (h : grOk x bal day hi lo = true) : GrIs x bal day hi lo := by
  unfold grOk at h
  split at h
  · rename_i sl wt h1 h2
    split at h
    · rename_i g1 g2 e h3
      rw [Bool.and_eq_true, decide_eq_true_iff, decide_eq_true_iff] at h
      exact ⟨200, sl, wt, g1, g2, e, h1, h2, h3, h.1, h.2⟩
    · cases h
  · cases h
def samL : List S66 := [⟨1000, 0, 0, ⟨0, 0⟩, ⟨0, 0⟩⟩, ⟨1000, 1, 0, ⟨0, 0⟩, ⟨0, 0⟩⟩, ⟨1000, 2, 100000, ⟨0, 6588000000000⟩, ⟨0, 0⟩⟩, ⟨1000, 3, 100000, ⟨0, 6588000000000⟩, ⟨0, 0⟩⟩, ⟨1000, 4, -100000, ⟨0, 0⟩, ⟨0, 6588000000000⟩⟩]
theorem samFew : FewT samB.prods := by
  intro p hp
  have e : p = samPrd := List.mem_singleton.1 hp
  subst e
  exact ⟨by decide, by decide⟩
theorem sam0 : DayIs samB 1000 0 0 0 0 0 0 := .inl ⟨by decide +kernel, rfl, rfl, rfl, rfl, rfl⟩
theorem sam1 : DayIs samB 1000 1 0 0 0 0 0 := .inr ⟨by decide +kernel, by decide +kernel, .inr ⟨by decide +kernel, .inr (.inr ⟨rfl, rfl, rfl, rfl, rfl⟩)⟩⟩
theorem side_same {b : Bk} {id day bal chi clo dhi dlo : Int} (hs : (sideP (prodA b id day).1 bal).tiers = samIntr.tiers ∧ (sideP (prodA b id day).1 bal).marg = samIntr.marg ∧ (sideP (prodA b id day).1 bal).basis = samIntr.basis) (h : SideIs samIntr bal day chi clo dhi dlo) : SideIs (sideP (prodA b id day).1 bal) bal day chi clo dhi dlo := by
  obtain ⟨h1, h2, h3⟩ := hs
  unfold SideIs GrIs
  rw [h1, h2, h3]
  exact h
theorem sam2 : DayIs samB 1000 2 100000 0 6588000000000 0 0 := .inr ⟨by decide +kernel, by decide +kernel, .inr ⟨by decide +kernel, side_same ⟨by kernel_rfl, by kernel_rfl, by kernel_rfl⟩ (.inl ⟨by decide, gr_of (by decide +kernel), rfl, rfl⟩)⟩⟩
theorem sam3 : DayIs samB 1000 3 100000 0 6588000000000 0 0 := .inr ⟨by decide +kernel, by decide +kernel, .inr ⟨by decide +kernel, side_same ⟨by kernel_rfl, by kernel_rfl, by kernel_rfl⟩ (.inl ⟨by decide, gr_of (by decide +kernel), rfl, rfl⟩)⟩⟩
theorem sam4 : DayIs samB 1000 4 (-100000) 0 0 0 6588000000000 := .inr ⟨by decide +kernel, by decide +kernel, .inr ⟨by decide +kernel, side_same ⟨by kernel_rfl, by kernel_rfl, by kernel_rfl⟩ (.inr (.inl ⟨by decide, gr_of (by decide +kernel), rfl, rfl⟩))⟩⟩
theorem samSer : SerAns samB 1000 0 4 samL 0 := .inr (.inr ⟨by decide +kernel, by decide +kernel, by decide, fun i h => by
  have h5 : i < 5 := h
  have : i = 0 ∨ i = 1 ∨ i = 2 ∨ i = 3 ∨ i = 4 := by omega
  rcases this with rfl | rfl | rfl | rfl | rfl
  · exact ⟨rfl, rfl, sam0⟩
  · exact ⟨rfl, rfl, sam1⟩
  · exact ⟨rfl, rfl, sam2⟩
  · exact ⟨rfl, rfl, sam3⟩
  · exact ⟨rfl, rfl, sam4⟩, rfl⟩)
theorem samDay : DayAns samB 1000 3 1000 3 100000 0 6588000000000 0 0 0 := .inr (.inr ⟨by decide +kernel, by decide +kernel, rfl, rfl, sam3, rfl⟩)
theorem samNone : DayAns samB 1001 3 0 0 0 0 0 0 0 11 := .inl ⟨by decide +kernel, rfl, rfl, rfl, rfl, rfl, rfl, rfl, rfl⟩
theorem samTot : totP wide_Add.f samL 0 0 0 0 = some (0, 13176000000000, 0, 6588000000000, 0) := by decide +kernel
theorem of6 : corebankref01_Of.f 6588000000000 = some (0, 6588000000000) := by decide +kernel
theorem of13 : corebankref01_Of.f 13176000000000 = some (0, 13176000000000) := by decide +kernel
end Go.Proofs.Ytlmabdiodopidaa.G
end
section
namespace Go.Proofs.Ytlmabdiodopidaa.G
open Go.RowKit Go.Proofs.YtlmabdiodopidaaW.PrintWords Go.Proofs.YtlmabdiodopidaaW.PrintLast Go.Proofs.YtlmabdiodopidaaW.PrintMore Go.Proofs.Ytlmabdiodopidaa.P
theorem cell2 {W : World} {a p p' : Addr} {v u u' : Value} (h : W.cell? a = some v) (h1 : p.block ≠ a.block) (h2 : p'.block ≠ a.block) : ((W.setCell p u).setCell p' u').cell? a = some v := by
  rw [World.cell?_setCell_far _ _ _ _ h2, World.cell?_setCell_far _ _ _ _ h1, h]
/-- the box of a number of two cells -/
structure PBox (N : Nat) (W : World) (g : Nat) : Prop where
  blk : Blk W g zWd 35
  le : N ≤ g
theorem PBox.below {N g : Nat} {W W1 : World} (h : PBox N W g) (hb : Below W.heap.size W W1) : PBox N W1 g := ⟨h.blk.below hb, h.le⟩
theorem PBox.ne {N g B : Nat} {W : World} (h : PBox N W g) (hb : B < N) : g ≠ B := by have := h.le; omega
theorem PBox.c0 {N g : Nat} {W : World} (h : PBox N W g) : W.cell? ⟨g, 0, none⟩ = some (.int .i64 0) := h.blk.cell 0
theorem PBox.c1 {N g : Nat} {W : World} (h : PBox N W g) : W.cell? ⟨g, 1, none⟩ = some (.int .u64 0) := h.blk.cell 1
theorem PBox.z0 {N g : Nat} {W : World} (h : PBox N W g) : W.frozen? ⟨g, 0, none⟩ = false := h.blk.frozen 0
theorem PBox.z1 {N g : Nat} {W : World} (h : PBox N W g) : W.frozen? ⟨g, 1, none⟩ = false := h.blk.frozen 1
end Go.Proofs.Ytlmabdiodopidaa.G
end
section
namespace Go.Proofs.Ytlmabdiodopidaa.G
set_option maxRecDepth 100000
open Go.RowKit Go.Proofs.YtlmabdiodopidaaW.PrintWords Go.Proofs.YtlmabdiodopidaaW.PrintLast Go.Proofs.YtlmabdiodopidaaW.PrintMore Go.Proofs.Ytlmabdiodopidaa.P
theorem of_any {a r1 r2 : Int} (h : corebankref01_Of.f a = some (r1, r2)) (w : World) : Calls Try.prog 41 #[.int .i64 a] w fun e w' => e = .returned (.agg #[.int .i64 r1, .int .u64 r2]) ∧ Below w.heap.size w w' := corebankref01_Of.calls a r1 r2 w h
set_option maxHeartbeats 4000000 in
theorem lives_calls (w : World) :
    Calls Try.prog 30 #[] w fun e w' => e = .returned (.bool true) ∧ Below w.heap.size w w' := by
  go_enter Try.func30, Try.ntmps30
  go_upto_region 2 with (first
    | (go_at_call 41; refine (of_any of6 _).mono ?_; rintro e w1 ⟨rfl, hb1⟩; have HB1 := Aside0.mk hb1; clear hb1))
  have G1 := Aside0.mk (Blk.new w1 [.int .i64 0, .int .u64 6588000000000] 35)
  have HW := Aside0.mk (HB1.out.alloc HB1.out.size (.cells [.int .i64 0, .int .u64 6588000000000].toArray 35))
  have O1 := Aside0.mk HB1.out.size
  clear HB1
  generalize World.alloc _ _ = W1 at *
  generalize w1.heap.size = gd at *
  go_upto_region 5 with (first
    | (go_at_call 50; refine (sample_calls _).mono ?_; rintro e w2 ⟨cs, rfl, hk2, hb2⟩; have HK2 := Aside0.mk hk2; have HB2 := Aside0.mk hb2; clear hk2 hb2)
    | (go_at_call 33; refine (series_calls cs samB 1000 0 4 samL 0 w2 w2 (Below.refl _ _) HK2.out samFew samSer).mono ?_; rintro e w3 ⟨v, rfl, hr, hb3⟩; obtain ⟨A, c, hv, -, hC⟩ := Kd.R_reads hr; have hv5 : v = .slice A 5 c := hv; subst hv5; have HC := Aside0.mk hC; have HB3 := Aside0.mk hb3; clear hr hb3 hv hC))
  have HW3 := Aside0.mk (bstep (bstep HW.out HB2.out) HB3.out)
  have G3 := Aside0.mk ((G1.out.below HB2.out).below HB3.out)
  obtain ⟨ad, ce, hA, hcl, hcK, hcR⟩ := row_at HC.out Go.Proofs.Ytlmabdiodopidaa.P.z66 (4 : Int) (by omega) (by decide)
  obtain ⟨ad', cf, hA', hfl, hfK, hfR⟩ := row_at HC.out Go.Proofs.Ytlmabdiodopidaa.P.z66 (0 : Int) (by omega) (by decide)
  subst hA
  cases hA'
  have hce : ce = acL 1000 4 (-100000) 0 0 0 6588000000000 := k66_open hcK
  have hcf : cf = acL 1000 0 0 0 0 0 0 := k66_open hfK
  subst hce
  subst hcf
  have R4 := Aside0.mk hcR
  have R0 := Aside0.mk hfR
  clear hcl hcK hcR hfl hfK hfR HW G1 HK2 HB2 HB3
  go_upto_region 6 with (first
    | (go_at_call 50; refine (sample_calls _).mono ?_; rintro e w4 ⟨cs, rfl, hk2, hb2⟩; have HK2 := Aside0.mk hk2; have HB2 := Aside0.mk hb2; clear hk2 hb2)
    | (go_at_call 31; refine (day_calls cs samB 1000 3 1000 3 100000 0 6588000000000 0 0 0 w4 w4 (Below.refl _ _) HK2.out samFew samDay).mono ?_; rintro e w5 ⟨rfl, hb3⟩; have HB3 := Aside0.mk hb3; clear hb3))
  have hb5 := bstep HB2.out HB3.out
  have G5 := Aside0.mk ((G3.out.below hb5).alloc (.cells (acL 1000 3 100000 0 6588000000000 0 0).toArray 66))
  have D5 := Aside0.mk (Blk.new w5 (acL 1000 3 100000 0 6588000000000 0 0) 66)
  have HL5 := Aside0.mk (hb5.alloc hb5.size (.cells (acL 1000 3 100000 0 6588000000000 0 0).toArray 66))
  have O5 := Aside0.mk (Nat.le_trans (Nat.le_trans O1.out (Nat.le_of_lt G3.out.lt)) hb5.size)
  clear hb5 HK2 HB2 HB3 G3
  generalize World.alloc _ _ = W5 at *
  generalize w5.heap.size = ge at *
  go_upto_region 7 with (first
    | (go_at_call 50; refine (sample_calls _).mono ?_; rintro e w6 ⟨cs, rfl, hk2, hb2⟩; have HK2 := Aside0.mk hk2; have HB2 := Aside0.mk hb2; clear hk2 hb2)
    | (go_at_call 31; refine (day_calls cs samB 1001 3 0 0 0 0 0 0 0 11 w6 w6 (Below.refl _ _) HK2.out samFew samNone).mono ?_; rintro e w7 ⟨rfl, hb3⟩; have HB3 := Aside0.mk hb3; clear hb3))
  have hb7 := bstep HB2.out HB3.out
  have G7 := Aside0.mk ((G5.out.below hb7).alloc (.cells (acL 0 0 0 0 0 0 0).toArray 66))
  have D7 := Aside0.mk ((D5.out.below hb7).alloc (.cells (acL 0 0 0 0 0 0 0).toArray 66))
  have HL7 := Aside0.mk (bstep HL5.out (hb7.alloc hb7.size (.cells (acL 0 0 0 0 0 0 0).toArray 66)))
  clear hb7 HK2 HB2 HB3 G5 D5 HL5
  generalize World.alloc _ _ = W7 at *
  generalize w7.heap.size = gu at *
  go_upto_region 8 with (first
    | (go_at_call 36; refine (total_calls (some ad) c samL 0 13176000000000 0 6588000000000 0 w3 W7 HL7.out HC.out samTot).mono ?_; rintro e w8 ⟨rfl, hb8⟩; have HB8 := Aside0.mk hb8; clear hb8))
  have G8 := Aside0.mk (((G7.out.below HB8.out).alloc (.cells [.int .i64 0, .int .u64 13176000000000].toArray 35)).alloc (.cells [.int .i64 0, .int .u64 6588000000000].toArray 35))
  have D8 := Aside0.mk (((D7.out.below HB8.out).alloc (.cells [.int .i64 0, .int .u64 13176000000000].toArray 35)).alloc (.cells [.int .i64 0, .int .u64 6588000000000].toArray 35))
  have T81 := Aside0.mk ((Blk.new w8 [.int .i64 0, .int .u64 13176000000000] 35).alloc (.cells [.int .i64 0, .int .u64 6588000000000].toArray 35))
  have T82 := Aside0.mk (Blk.newAt (w8.alloc (.cells [.int .i64 0, .int .u64 13176000000000].toArray 35)) (g := w8.heap.size + 1) (by simp) [.int .i64 0, .int .u64 6588000000000] 35)
  have hl8 := bstep HL7.out HB8.out
  have HL8 := Aside0.mk ((hl8.alloc hl8.size (.cells [.int .i64 0, .int .u64 13176000000000].toArray 35)).alloc (by have := hl8.size; simp; omega) (.cells [.int .i64 0, .int .u64 6588000000000].toArray 35))
  clear hl8 HB8 G7 D7 HL7
  generalize World.alloc _ _ = W8 at *
  generalize hg2 : w8.heap.size + 1 = g2 at *
  generalize w8.heap.size = g1 at *
  clear hg2
  have R48 : Aside0 (Rng W8 (ad.add (4 * 7)) (acL 1000 4 (-100000) 0 0 0 6588000000000)) := ⟨R4.out.below HL8.out⟩
  have R08 : Aside0 (Rng W8 (ad.add (0 * 7)) (acL 1000 0 0 0 0 0 0)) := ⟨R0.out.below HL8.out⟩
  have HW8 := Aside0.mk (bstep HW3.out HL8.out)
  have y0 : W8.cell? ⟨ge, 0, none⟩ = some (.int .i64 1000) := D8.out.cell 0
  have y1 : W8.cell? ⟨ge, 1, none⟩ = some (.int .i64 3) := D8.out.cell 1
  have y2 : W8.cell? ⟨ge, 2, none⟩ = some (.int .i64 100000) := D8.out.cell 2
  have y3 : W8.cell? ⟨ge, 3, none⟩ = some (.int .i64 0) := D8.out.cell 3
  have y4 : W8.cell? ⟨ge, 4, none⟩ = some (.int .u64 6588000000000) := D8.out.cell 4
  have y5 : W8.cell? ⟨ge, 5, none⟩ = some (.int .i64 0) := D8.out.cell 5
  have y6 : W8.cell? ⟨ge, 6, none⟩ = some (.int .u64 0) := D8.out.cell 6
  have y7 : W8.cell? ⟨ad.block, ad.off + 28, none⟩ = some (.int .i64 1000) := R48.out.at0 rfl
  have y8 : W8.cell? ⟨ad.block, ad.off + 28 + 1, none⟩ = some (.int .i64 4) := R48.out.at_ 1 (by omega) rfl
  have y9 : W8.cell? ⟨ad.block, ad.off + 28 + 2, none⟩ = some (.int .i64 (-100000)) := R48.out.at_ 2 (by omega) rfl
  have y10 : W8.cell? ⟨ad.block, ad.off + 28 + 3, none⟩ = some (.int .i64 0) := R48.out.at_ 3 (by omega) rfl
  have y11 : W8.cell? ⟨ad.block, ad.off + 28 + 4, none⟩ = some (.int .u64 0) := R48.out.at_ 4 (by omega) rfl
  have y12 : W8.cell? ⟨ad.block, ad.off + 28 + 5, none⟩ = some (.int .i64 0) := R48.out.at_ 5 (by omega) rfl
  have y13 : W8.cell? ⟨ad.block, ad.off + 28 + 6, none⟩ = some (.int .u64 6588000000000) := R48.out.at_ 6 (by omega) rfl
  have y14 : W8.cell? ad = some (.int .i64 1000) := R08.out.at0 rfl
  have y15 : W8.cell? ⟨ad.block, ad.off + 1, none⟩ = some (.int .i64 0) := R08.out.at_ 1 (by omega) rfl
  have y16 : W8.cell? ⟨ad.block, ad.off + 2, none⟩ = some (.int .i64 0) := R08.out.at_ 2 (by omega) rfl
  have y17 : W8.cell? ⟨ad.block, ad.off + 3, none⟩ = some (.int .i64 0) := R08.out.at_ 3 (by omega) rfl
  have y18 : W8.cell? ⟨ad.block, ad.off + 4, none⟩ = some (.int .u64 0) := R08.out.at_ 4 (by omega) rfl
  have y19 : W8.cell? ⟨ad.block, ad.off + 5, none⟩ = some (.int .i64 0) := R08.out.at_ 5 (by omega) rfl
  have y20 : W8.cell? ⟨ad.block, ad.off + 6, none⟩ = some (.int .u64 0) := R08.out.at_ 6 (by omega) rfl
  have y21 : W8.cell? ⟨gd, 0, none⟩ = some (.int .i64 0) := G8.out.cell 0
  have y22 : W8.cell? ⟨gd, 1, none⟩ = some (.int .u64 6588000000000) := G8.out.cell 1
  have y23 : W8.cell? ⟨g1, 0, none⟩ = some (.int .i64 0) := T81.out.cell 0
  have y24 : W8.cell? ⟨g1, 1, none⟩ = some (.int .u64 13176000000000) := T81.out.cell 1
  have y25 : W8.cell? ⟨g2, 0, none⟩ = some (.int .i64 0) := T82.out.cell 0
  have y26 : W8.cell? ⟨g2, 1, none⟩ = some (.int .u64 6588000000000) := T82.out.cell 1
  clear G8 D8 T81 T82 R48 R08 R4 R0 HL8 HW3 HC
  go_region_held3 (fun w' => w'.cell? ⟨ge, 0, none⟩ = some (.int .i64 1000) ∧ w'.cell? ⟨ge, 1, none⟩ = some (.int .i64 3) ∧ w'.cell? ⟨ge, 2, none⟩ = some (.int .i64 100000) ∧ w'.cell? ⟨ge, 3, none⟩ = some (.int .i64 0) ∧ w'.cell? ⟨ge, 4, none⟩ = some (.int .u64 6588000000000) ∧ w'.cell? ⟨ge, 5, none⟩ = some (.int .i64 0) ∧ w'.cell? ⟨ge, 6, none⟩ = some (.int .u64 0) ∧ w'.cell? ⟨ad.block, ad.off + 28, none⟩ = some (.int .i64 1000) ∧ w'.cell? ⟨ad.block, ad.off + 28 + 1, none⟩ = some (.int .i64 4) ∧ w'.cell? ⟨ad.block, ad.off + 28 + 2, none⟩ = some (.int .i64 (-100000)) ∧ w'.cell? ⟨ad.block, ad.off + 28 + 3, none⟩ = some (.int .i64 0) ∧ w'.cell? ⟨ad.block, ad.off + 28 + 4, none⟩ = some (.int .u64 0) ∧ w'.cell? ⟨ad.block, ad.off + 28 + 5, none⟩ = some (.int .i64 0) ∧ w'.cell? ⟨ad.block, ad.off + 28 + 6, none⟩ = some (.int .u64 6588000000000) ∧ w'.cell? ad = some (.int .i64 1000) ∧ w'.cell? ⟨ad.block, ad.off + 1, none⟩ = some (.int .i64 0) ∧ w'.cell? ⟨ad.block, ad.off + 2, none⟩ = some (.int .i64 0) ∧ w'.cell? ⟨ad.block, ad.off + 3, none⟩ = some (.int .i64 0) ∧ w'.cell? ⟨ad.block, ad.off + 4, none⟩ = some (.int .u64 0) ∧ w'.cell? ⟨ad.block, ad.off + 5, none⟩ = some (.int .i64 0) ∧ w'.cell? ⟨ad.block, ad.off + 6, none⟩ = some (.int .u64 0) ∧ w'.cell? ⟨gd, 0, none⟩ = some (.int .i64 0) ∧ w'.cell? ⟨gd, 1, none⟩ = some (.int .u64 6588000000000) ∧ w'.cell? ⟨g1, 0, none⟩ = some (.int .i64 0) ∧ w'.cell? ⟨g1, 1, none⟩ = some (.int .u64 13176000000000) ∧ w'.cell? ⟨g2, 0, none⟩ = some (.int .i64 0) ∧ w'.cell? ⟨g2, 1, none⟩ = some (.int .u64 6588000000000))
    (first
      | exact ⟨y0, y1, y2, y3, y4, y5, y6, y7, y8, y9, y10, y11, y12, y13, y14, y15, y16, y17, y18, y19, y20, y21, y22, y23, y24, y25, y26⟩
      | go_keep
      | (go_split_ands
         refine ⟨?_, ?_, ?_, ?_, ?_, ?_, ?_, ?_, ?_, ?_, ?_, ?_, ?_, ?_, ?_, ?_, ?_, ?_, ?_, ?_, ?_, ?_, ?_, ?_, ?_, ?_, ?_⟩ <;> exact keepc hb9 (by assumption))
      | fail)
    (first
      | (go_at_call 41; refine (of_any of13 _).mono ?_; rintro e w9 ⟨rfl, hb9⟩)
      | fail)
  have hb : Below w.heap.size w w9 := bstep HW8.out (by first | exact bstep (pw_below_drewN (Below.refl _ W8) _) hb9 | exact bstep (Below.refl _ W8).drew hb9)
  go_wp2
  go_ret
  exact ⟨rfl, hb⟩
end Go.Proofs.Ytlmabdiodopidaa.G
end
section
namespace Go.Proofs.Ytlmabdiodopidaa.G
set_option maxRecDepth 100000
open Go.RowKit Go.Proofs.YtlmabdiodopidaaW.PrintWords Go.Proofs.YtlmabdiodopidaaW.PrintLast Go.Proofs.YtlmabdiodopidaaW.PrintMore Go.Proofs.Ytlmabdiodopidaa.P
theorem radd_any {a b c d r0 r1 r2 : Int} (h : corebankref01_Add.f a b c d = some (r0, r1, r2)) (w : World) : Calls Try.prog 28 #[.agg #[.int .i64 a, .int .u64 b], .agg #[.int .i64 c, .int .u64 d]] w fun e w' => e = .returned (.tuple #[.agg #[.int .i64 r0, .int .u64 r1], .int .i64 r2]) ∧ Below w.heap.size w w' := corebankref01_Add.calls a b c d r0 r1 r2 w h
set_option maxHeartbeats 4000000 in
theorem rtotal_calls (A : Option Addr) (cc : Nat) (l : List S66) (r0 r1 r2 r3 er : Int) (w0 w : World) (hb0 : Below w0.heap.size w0 w) (hr : Kd.C k66 w0 A l.length l) (h : totP corebankref01_Add.f l 0 0 0 0 = some (r0, r1, r2, r3, er)) :
    Calls Try.prog 37 #[.slice A l.length cc] w fun e w' => e = .returned (.tuple #[.agg #[.int .i64 r0, .int .u64 r1], .agg #[.int .i64 r2, .int .u64 r3], .int .i64 er]) ∧ Below w.heap.size w w' := by
  have hlm := Kd.C_max hr
  have HR := Aside0.mk hr
  have HB0 := Aside0.mk hb0
  have H := Aside0.mk h
  clear hr hb0 h
  go_enter Try.func37, Try.ntmps37
  go_wp2
  have b2 := (((Blk.new w zWd 35).alloc (.cells zWd.toArray 35)).alloc (.cells zWd.toArray 35)).alloc (.cells zWd.toArray 35)
  have b3 := ((Blk.newAt (w.alloc (.cells zWd.toArray 35)) (g := w.heap.size + 1) (by simp) zWd 35).alloc (.cells zWd.toArray 35)).alloc (.cells zWd.toArray 35)
  have b5 := (Blk.newAt ((w.alloc (.cells zWd.toArray 35)).alloc (.cells zWd.toArray 35)) (g := w.heap.size + 1 + 1) (by simp) zWd 35).alloc (.cells zWd.toArray 35)
  have b6 := Blk.newAt (((w.alloc (.cells zWd.toArray 35)).alloc (.cells zWd.toArray 35)).alloc (.cells zWd.toArray 35)) (g := w.heap.size + 1 + 1 + 1) (by simp) zWd 35
  have hB := ((((Below.refl w.heap.size w).alloc (Nat.le_refl _) (.cells zWd.toArray 35)).alloc (by simp) (.cells zWd.toArray 35)).alloc (by simp; omega) (.cells zWd.toArray 35)).alloc (by simp; omega) (.cells zWd.toArray 35)
  have hsz : w.heap.size + 4 ≤ ((((w.alloc (.cells zWd.toArray 35)).alloc (.cells zWd.toArray 35)).alloc (.cells zWd.toArray 35)).alloc (.cells zWd.toArray 35)).heap.size := by simp
  have B2 := Aside0.mk b2
  have B3 := Aside0.mk b3
  have B5 := Aside0.mk b5
  have B6 := Aside0.mk b6
  have HB := Aside0.mk hB
  have HSZ := Aside0.mk hsz
  clear b2 b3 b5 b6 hB hsz
  go_loopw [7] (fun i wr => ∃ (x : Nat) (a b c d : Int), x ≤ l.length ∧ i = .int .i64 x ∧ Aside0 (totP corebankref01_Add.f (l.drop x) a b c d = some (r0, r1, r2, r3, er)) ∧ Aside0 (Blk wr w.heap.size zWd 35) ∧ Aside0 (Blk wr (w.heap.size + 1) zWd 35) ∧ Aside0 (Blk wr (w.heap.size + 1 + 1) [.int .i64 a, .int .u64 b] 35) ∧ Aside0 (Blk wr (w.heap.size + 1 + 1 + 1) [.int .i64 c, .int .u64 d] 35) ∧ Aside0 (Below w.heap.size w wr)) (fun i _ => l.length - (intOf i).toNat)
  case atStart => exact ⟨0, 0, 0, 0, 0, by omega, rfl, H, B2, B3, B5, B6, HB⟩
  case round =>
    clear B2 B3 B5 B6 HB HSZ
    obtain ⟨x, a, b, c, d, k1, rfl, HT, C2, C3, C5, C6, HW⟩ := hrel
    by_cases hlt : x < l.length
    · obtain ⟨ad, ce, hA, hcl, hcK, hcR⟩ := row_at HR.out Go.Proofs.Ytlmabdiodopidaa.P.z66 (x : Int) (by omega) (by omega)
      subst hA
      rw [show l.getD (x : Int).toNat Go.Proofs.Ytlmabdiodopidaa.P.z66 = l[x] by rw [Int.toNat_natCast, List.getD_eq_getElem?_getD, List.getElem?_eq_getElem hlt, Option.getD_some]] at hcK
      have hce := k66_open hcK
      have CL := Aside0.mk hcl
      have CK := Aside0.mk hcK
      have CR := Aside0.mk (hcR.below (bstep HB0.out HW.out))
      have ht := HT.out
      rw [drop_at l x hlt] at ht
      unfold totP at ht
      generalize l[x] = xx at *
      cases hr : corebankref01_Add.f a b xx.f3.f0 xx.f3.f1 with
      | none => rw [hr] at ht; cases ht
      | some r =>
      rw [hr, Option.bind_some] at ht
      cases hq : corebankref01_Add.f c d xx.f4.f0 xx.f4.f1 with
      | none => rw [hq] at ht; cases ht
      | some q =>
      rw [hq, Option.bind_some] at ht
      obtain ⟨p0, p1, p2⟩ := r
      obtain ⟨q0, q1, q2⟩ := q
      have HRR := Aside0.mk hr
      have HQ := Aside0.mk hq
      have HT2 := Aside0.mk ht
      clear hr hq ht HT hcl hcK hcR CL CK
      have e3 : ce[3]? = some (.int .i64 xx.f3.f0) := by rw [hce]; rfl
      have e4 : ce[4]? = some (.int .u64 xx.f3.f1) := by rw [hce]; rfl
      have e5 : ce[5]? = some (.int .i64 xx.f4.f0) := by rw [hce]; rfl
      have e6 : ce[6]? = some (.int .u64 xx.f4.f1) := by rw [hce]; rfl
      have E3 := Aside0.mk e3
      have E4 := Aside0.mk e4
      have E5 := Aside0.mk e5
      have E6 := Aside0.mk e6
      clear hce e3 e4 e5 e6
      have y0 : wr.cell? ⟨w.heap.size + 1 + 1, 0, none⟩ = some (.int .i64 a) := C5.out.cell 0
      have y1 : wr.cell? ⟨w.heap.size + 1 + 1, 1, none⟩ = some (.int .u64 b) := C5.out.cell 1
      have y3 : wr.cell? ⟨(ad.add (x * 7)).block, (ad.add (x * 7)).off + 3, none⟩ = some (.int .i64 xx.f3.f0) := CR.out.at_ 3 (by omega) E3.out
      have y4 : wr.cell? ⟨(ad.add (x * 7)).block, (ad.add (x * 7)).off + 4, none⟩ = some (.int .u64 xx.f3.f1) := CR.out.at_ 4 (by omega) E4.out
      have AB := Aside0.mk (World.block_lt_of_cell? _ _ y3)
      go_upto_region 5 with (fail)
      go_region_held3 (fun w' => w'.cell? ⟨w.heap.size + 1 + 1, 0, none⟩ = some (.int .i64 a) ∧ w'.cell? ⟨w.heap.size + 1 + 1, 1, none⟩ = some (.int .u64 b) ∧ w'.cell? ⟨(ad.add (x * 7)).block, (ad.add (x * 7)).off + 3, none⟩ = some (.int .i64 xx.f3.f0) ∧ w'.cell? ⟨(ad.add (x * 7)).block, (ad.add (x * 7)).off + 4, none⟩ = some (.int .u64 xx.f3.f1))
        (first
          | exact ⟨y0, y1, y3, y4⟩
          | go_keep
          | (go_split_ands
             refine ⟨?_, ?_, ?_, ?_⟩ <;> exact keepc hb1 (by assumption))
          | (exact ⟨keepc ((Below.refl _ wc).alloc (Nat.le_refl _) _) (keepc HC.out y0), keepc ((Below.refl _ wc).alloc (Nat.le_refl _) _) (keepc HC.out y1), keepc ((Below.refl _ wc).alloc (Nat.le_refl _) _) (keepc HC.out y3), keepc ((Below.refl _ wc).alloc (Nat.le_refl _) _) (keepc HC.out y4)⟩)
          | (exact ⟨cell2 (keepc HC.out y0) m1 m1, cell2 (keepc HC.out y1) m1 m1, cell2 (keepc HC.out y3) m2 m2, cell2 (keepc HC.out y4) m2 m2⟩)
          | fail)
        (first
          | (go_at_call 28; refine (radd_any HRR.out _).mono ?_; rintro e wc ⟨rfl, hb1⟩; have HC : Aside0 (Below wr.heap.size wr wc) := ⟨by first | exact bstep (pw_below_drewN (Below.refl _ wr) _) hb1 | exact bstep ((pw_below_drewN (Below.refl _ wr) _).alloc (by simp) _) hb1⟩; (try have PB : Aside0 (PBox wr.heap.size wc wr.heap.size) := ⟨⟨(Blk.new (wr.drewN 1) zWd 35).below hb1, Nat.le_refl _⟩⟩); (try have m1 := PB.out.ne C5.out.lt); (try have m2 := PB.out.ne AB.out); (try have c0 := PB.out.c0); (try have c1 := PB.out.c1); (try have z0 := PB.out.z0); (try have z1 := PB.out.z1))
          | fail)
      all_goals first
        | (have G : Aside0 (Blk _ _ [.int .i64 p0, .int .u64 p1] 35) := ⟨(PB.out.blk.setc 0 (.int .i64 p0)).setc 1 (.int .u64 p1)⟩
           have HF := Aside0.mk ((HC.out.setCell (p := ⟨_, 0, none⟩) PB.out.le (.int .i64 p0)).setCell (p := ⟨_, 1, none⟩) PB.out.le (.int .u64 p1))
           have LG := Aside0.mk (PB.out.le)
           clear PB c0 c1 z0 z1 m1 m2
           generalize World.setCell _ _ _ = W2 at *
           have LW2 := Aside0.mk C6.out.lt
           have F2 := Aside0.mk (C2.out.below HF.out)
           have F3 := Aside0.mk (C3.out.below HF.out)
           have F5 := Aside0.mk (C5.out.below HF.out)
           have F6 := Aside0.mk (C6.out.below HF.out)
           have FR := Aside0.mk (CR.out.below HF.out)
           have FW := Aside0.mk (bstep HW.out HF.out)
           clear C2 C3 C5 C6 CR AB HRR E3 E4 HW HC HF hb1
           generalize wr.heap.size = B9 at *)
        | (have G : Aside0 (Blk _ _ [.int .i64 p0, .int .u64 p1] 35) := ⟨Blk.new wc [.int .i64 p0, .int .u64 p1] 35⟩
           have HF := Aside0.mk (HC.out.alloc HC.out.size (.cells [.int .i64 p0, .int .u64 p1].toArray 35))
           have LG := Aside0.mk HC.out.size
           generalize World.alloc wc _ = W2 at *
           have LW2 := Aside0.mk (Nat.lt_of_lt_of_le C6.out.lt LG.out)
           have F2 := Aside0.mk (C2.out.below HF.out)
           have F3 := Aside0.mk (C3.out.below HF.out)
           have F5 := Aside0.mk (C5.out.below HF.out)
           have F6 := Aside0.mk (C6.out.below HF.out)
           have FR := Aside0.mk (CR.out.below HF.out)
           have FW := Aside0.mk (bstep HW.out HF.out)
           clear C2 C3 C5 C6 CR AB HRR E3 E4 HW HC HF hb1
           generalize wc.heap.size = B9 at *)
      all_goals
        clear y0 y1 y3 y4
        have y0 : W2.cell? ⟨w.heap.size + 1 + 1 + 1, 0, none⟩ = some (.int .i64 c) := F6.out.cell 0
        have y1 : W2.cell? ⟨w.heap.size + 1 + 1 + 1, 1, none⟩ = some (.int .u64 d) := F6.out.cell 1
        have y3 : W2.cell? ⟨(ad.add (x * 7)).block, (ad.add (x * 7)).off + 5, none⟩ = some (.int .i64 xx.f4.f0) := FR.out.at_ 5 (by omega) E5.out
        have y4 : W2.cell? ⟨(ad.add (x * 7)).block, (ad.add (x * 7)).off + 6, none⟩ = some (.int .u64 xx.f4.f1) := FR.out.at_ 6 (by omega) E6.out
        have AB2 := Aside0.mk (World.block_lt_of_cell? _ _ y3)
        clear E5 E6 LG
        go_upto_region 6 with (fail)
        go_region_held3 (fun w' => w'.cell? ⟨w.heap.size + 1 + 1 + 1, 0, none⟩ = some (.int .i64 c) ∧ w'.cell? ⟨w.heap.size + 1 + 1 + 1, 1, none⟩ = some (.int .u64 d) ∧ w'.cell? ⟨(ad.add (x * 7)).block, (ad.add (x * 7)).off + 5, none⟩ = some (.int .i64 xx.f4.f0) ∧ w'.cell? ⟨(ad.add (x * 7)).block, (ad.add (x * 7)).off + 6, none⟩ = some (.int .u64 xx.f4.f1))
          (first
            | exact ⟨y0, y1, y3, y4⟩
            | go_keep
            | (go_split_ands
               refine ⟨?_, ?_, ?_, ?_⟩ <;> exact keepc hb2 (by assumption))
            | (exact ⟨keepc ((Below.refl _ wd).alloc (Nat.le_refl _) _) (keepc HD.out y0), keepc ((Below.refl _ wd).alloc (Nat.le_refl _) _) (keepc HD.out y1), keepc ((Below.refl _ wd).alloc (Nat.le_refl _) _) (keepc HD.out y3), keepc ((Below.refl _ wd).alloc (Nat.le_refl _) _) (keepc HD.out y4)⟩)
            | (exact ⟨cell2 (keepc HD.out y0) m1 m1, cell2 (keepc HD.out y1) m1 m1, cell2 (keepc HD.out y3) m2 m2, cell2 (keepc HD.out y4) m2 m2⟩)
            | fail)
          (first
            | (go_at_call 28; refine (radd_any HQ.out _).mono ?_; rintro e wd ⟨rfl, hb2⟩; have HD : Aside0 (Below W2.heap.size W2 wd) := ⟨by first | exact bstep (pw_below_drewN (Below.refl _ W2) _) hb2 | exact bstep ((pw_below_drewN (Below.refl _ W2) _).alloc (by simp) _) hb2⟩; (try have PB : Aside0 (PBox W2.heap.size wd W2.heap.size) := ⟨⟨(Blk.new (W2.drewN 1) zWd 35).below hb2, Nat.le_refl _⟩⟩); (try have m1 := PB.out.ne F6.out.lt); (try have m2 := PB.out.ne AB2.out); (try have c0 := PB.out.c0); (try have c1 := PB.out.c1); (try have z0 := PB.out.z0); (try have z1 := PB.out.z1))
            | fail)
      all_goals first
        | (have G11 : Aside0 (Blk _ _ [.int .i64 q0, .int .u64 q1] 35) := ⟨(PB.out.blk.setc 0 (.int .i64 q0)).setc 1 (.int .u64 q1)⟩
           have HF := Aside0.mk ((HD.out.setCell (p := ⟨_, 0, none⟩) PB.out.le (.int .i64 q0)).setCell (p := ⟨_, 1, none⟩) PB.out.le (.int .u64 q1))
           clear PB c0 c1 z0 z1 m1 m2
           generalize World.setCell _ _ _ = W3 at *
           have LW3 := Aside0.mk G.out.lt
           have I2 := Aside0.mk (F2.out.below HF.out)
           have I3 := Aside0.mk (F3.out.below HF.out)
           have I5 := Aside0.mk (F5.out.below HF.out)
           have I6 := Aside0.mk (F6.out.below HF.out)
           have I9 := Aside0.mk (G.out.below HF.out)
           have IW := Aside0.mk (bstep FW.out HF.out)
           clear F2 F3 F5 F6 FR FW G HF HD hb2 AB2
           generalize W2.heap.size = B11 at *)
        | (have G11 : Aside0 (Blk _ _ [.int .i64 q0, .int .u64 q1] 35) := ⟨Blk.new wd [.int .i64 q0, .int .u64 q1] 35⟩
           have HF := Aside0.mk (HD.out.alloc HD.out.size (.cells [.int .i64 q0, .int .u64 q1].toArray 35))
           generalize World.alloc wd _ = W3 at *
           have LW3 := Aside0.mk (Nat.lt_of_lt_of_le G.out.lt HD.out.size)
           have I2 := Aside0.mk (F2.out.below HF.out)
           have I3 := Aside0.mk (F3.out.below HF.out)
           have I5 := Aside0.mk (F5.out.below HF.out)
           have I6 := Aside0.mk (F6.out.below HF.out)
           have I9 := Aside0.mk (G.out.below HF.out)
           have IW := Aside0.mk (bstep FW.out HF.out)
           clear F2 F3 F5 F6 FR FW G HF HD hb2 AB2
           generalize wd.heap.size = B11 at *)
      all_goals
        clear y0 y1 y3 y4
        have hab := LW2.out
        have hbc := LW3.out
        by_cases h0 : p2 = 0 ∧ q2 = 0
        · obtain ⟨rfl, rfl⟩ := h0
          have ht := HT2.out
          rw [if_pos ⟨rfl, rfl⟩] at ht
          have HT3 := Aside0.mk ht
          clear ht HT2
          go_upto_region 9 with (fail)
          have z90 : W3.cell? ⟨B9, 0, none⟩ = some (.int .i64 p0) := I9.out.cell 0
          have z91 : W3.cell? ⟨B9, 1, none⟩ = some (.int .u64 p1) := I9.out.cell 1
          have z110 : W3.cell? ⟨B11, 0, none⟩ = some (.int .i64 q0) := G11.out.cell 0
          have z111 : W3.cell? ⟨B11, 1, none⟩ = some (.int .u64 q1) := G11.out.cell 1
          have z50 : W3.cell? ⟨w.heap.size + 1 + 1, 0, none⟩ = some (.int .i64 a) := I5.out.cell 0
          have z51 : W3.cell? ⟨w.heap.size + 1 + 1, 1, none⟩ = some (.int .u64 b) := I5.out.cell 1
          have z60 : W3.cell? ⟨w.heap.size + 1 + 1 + 1, 0, none⟩ = some (.int .i64 c) := I6.out.cell 0
          have z61 : W3.cell? ⟨w.heap.size + 1 + 1 + 1, 1, none⟩ = some (.int .u64 d) := I6.out.cell 1
          have s50 := I5.out.frozen 0
          have s51 := I5.out.frozen 1
          have s60 := I6.out.frozen 0
          have s61 := I6.out.frozen 1
          have n1 : w.heap.size + 1 + 1 ≠ B9 := by omega
          have n2 : w.heap.size + 1 + 1 ≠ B11 := by omega
          have n3 : w.heap.size + 1 + 1 + 1 ≠ B9 := by omega
          have n4 : w.heap.size + 1 + 1 + 1 ≠ B11 := by omega
          have P2 := Aside0.mk (put2 I5.out I6.out (by omega) (.int .i64 p0) (.int .u64 p1) (.int .i64 q0) (.int .u64 q1)).drew
          go_region
          go_wp2
          go_roundw
          case rel => exact ⟨x + 1, p0, p1, q0, q1, by omega, by go_num, HT3, ⟨P2.out.other _ _ _ (by omega) (by omega) I2.out⟩, ⟨P2.out.other _ _ _ (by omega) (by omega) I3.out⟩, ⟨P2.out.five⟩, ⟨P2.out.six⟩, ⟨P2.out.below _ _ (by omega) (by omega) IW.out⟩⟩
          case measure => simp [intOf]; omega
        · have ht := HT2.out
          rw [if_neg h0] at ht
          have he := Option.some.inj ht
          simp only [Prod.mk.injEq] at he
          obtain ⟨rfl, rfl, rfl, rfl, rfl⟩ := he
          clear ht HT2
          have c1 : (p2 != 0) = true ∨ ((p2 != 0) = false ∧ (q2 != 0) = true) := by
            by_cases h1 : p2 = 0
            · exact .inr ⟨by simp [h1], by simp; exact fun h2 => h0 ⟨h1, h2⟩⟩
            · exact .inl (by simp [h1])
          clear h0
          rcases c1 with c1 | ⟨c1, c2⟩
          all_goals
            go_wp2_with (first
              | (refine st_blk rfl 35 _ _ rfl rfl (g := w.heap.size) (vs := zWd) rfl rfl I2.out rfl ?_ (by simp [Value.oneCell']) ?_; kernel_rfl; intro J2)
              | (refine st_blk rfl 35 _ _ rfl rfl (g := w.heap.size + 1) (vs := zWd) rfl rfl (Blk.sets w.heap.size (by omega) _ _ I3.out) rfl ?_ (by simp [Value.oneCell']) ?_; kernel_rfl; intro J3))
            exact bodyPost_ret (ret_cell2_tmp Try.results37 _ _ rfl rfl rfl (Blk.sets (w.heap.size + 1) (by omega) _ _ J2) J3 Try.underlying35 rfl (by kernel_rfl) Try.underlying35 rfl (by kernel_rfl)) rfl ⟨rfl, Below.setCells _ (by omega) _ _ (Below.setCells _ (by omega) _ _ IW.out)⟩
    · have ht := HT.out
      rw [List.drop_eq_nil_of_le (by omega)] at ht
      unfold totP at ht
      have he := Option.some.inj ht
      simp only [Prod.mk.injEq] at he
      obtain ⟨rfl, rfl, rfl, rfl, rfl⟩ := he
      clear ht HT
      have z50 : wr.cell? ⟨w.heap.size + 1 + 1, 0, none⟩ = some (.int .i64 a) := C5.out.cell 0
      have z51 : wr.cell? ⟨w.heap.size + 1 + 1, 1, none⟩ = some (.int .u64 b) := C5.out.cell 1
      have z60 : wr.cell? ⟨w.heap.size + 1 + 1 + 1, 0, none⟩ = some (.int .i64 c) := C6.out.cell 0
      have z61 : wr.cell? ⟨w.heap.size + 1 + 1 + 1, 1, none⟩ = some (.int .u64 d) := C6.out.cell 1
      have z20 : wr.cell? ⟨w.heap.size, 0, none⟩ = some (.int .i64 0) := C2.out.cell 0
      have z21 : wr.cell? ⟨w.heap.size, 1, none⟩ = some (.int .u64 0) := C2.out.cell 1
      have z30 : wr.cell? ⟨w.heap.size + 1, 0, none⟩ = some (.int .i64 0) := C3.out.cell 0
      have z31 : wr.cell? ⟨w.heap.size + 1, 1, none⟩ = some (.int .u64 0) := C3.out.cell 1
      have s20 := C2.out.frozen 0
      have s21 := C2.out.frozen 1
      have s30 := C3.out.frozen 0
      have s31 := C3.out.frozen 1
      have P2 := Aside0.mk (put2 C2.out C3.out (by omega) (.int .i64 a) (.int .u64 b) (.int .i64 c) (.int .u64 d)).drew
      go_upto_region 10 with (fail)
      go_region
      go_wp2
      exact bodyPost_ret (ret_cell2_tmp Try.results37 _ _ rfl rfl rfl P2.out.five P2.out.six Try.underlying35 rfl (by kernel_rfl) Try.underlying35 rfl (by kernel_rfl)) rfl ⟨rfl, P2.out.below _ _ (by omega) (by omega) HW.out⟩
end Go.Proofs.Ytlmabdiodopidaa.G
end
section
namespace Go.Proofs.Ytlmabdiodopidaa.G
set_option maxRecDepth 100000
open Go.RowKit Go.Proofs.YtlmabdiodopidaaW.PrintWords Go.Proofs.YtlmabdiodopidaaW.PrintLast Go.Proofs.YtlmabdiodopidaaW.PrintMore Go.Proofs.Ytlmabdiodopidaa.P
set_option maxHeartbeats 4000000 in
theorem lawtot_calls (A : Option Addr) (cc : Nat) (l : List S66) (r0 r1 r2 r3 er : Int) (w0 w : World) (hb0 : Below w0.heap.size w0 w) (hr : Kd.C k66 w0 A l.length l) (h1 : totP wide_Add.f l 0 0 0 0 = some (r0, r1, r2, r3, er)) (h2 : totP corebankref01_Add.f l 0 0 0 0 = some (r0, r1, r2, r3, er)) :
    Calls Try.prog 12 #[.slice A l.length cc] w fun e w' => e = .returned (.bool true) ∧ Below w.heap.size w w' := by
  have hlm := Kd.C_max hr
  have HR := Aside0.mk hr
  have HB0 := Aside0.mk hb0
  have H1 := Aside0.mk h1
  have H2 := Aside0.mk h2
  clear hr hb0 h1 h2
  go_enter Try.func12, Try.ntmps12
  by_cases hl : 300 < l.length
  · go_wp2_with (go_at_call 30; refine (lives_calls _).mono ?_; rintro e w1 ⟨rfl, hb1⟩)
    go_ret
    exact ⟨rfl, hb1⟩
  · go_upto_region 4 with (first
      | (go_at_call 36; refine (total_calls A cc l r0 r1 r2 r3 er w0 w HB0.out HR.out H1.out).mono ?_; rintro e w1 ⟨rfl, hb1⟩; have HB1 := Aside0.mk hb1; clear hb1))
    have T3 := Aside0.mk ((Blk.new w1 [.int .i64 r0, .int .u64 r1] 35).alloc (.cells [.int .i64 r2, .int .u64 r3].toArray 35))
    have T4 := Aside0.mk (Blk.newAt (w1.alloc (.cells [.int .i64 r0, .int .u64 r1].toArray 35)) (g := w1.heap.size + 1) (by simp) [.int .i64 r2, .int .u64 r3] 35)
    have HW := Aside0.mk ((HB1.out.alloc HB1.out.size (.cells [.int .i64 r0, .int .u64 r1].toArray 35)).alloc (by have := HB1.out.size; simp; omega) (.cells [.int .i64 r2, .int .u64 r3].toArray 35))
    clear HB1
    generalize World.alloc _ _ = W1 at *
    generalize hg4 : w1.heap.size + 1 = g4 at *
    generalize w1.heap.size = g3 at *
    clear hg4
    go_upto_region 5 with (first
      | (go_at_call 37; refine (rtotal_calls A cc l r0 r1 r2 r3 er w0 W1 (bstep HB0.out HW.out) HR.out H2.out).mono ?_; rintro e w2 ⟨rfl, hb2⟩; have HB2 := Aside0.mk hb2; clear hb2))
    have U3 := Aside0.mk (((T3.out.below HB2.out).alloc (.cells [.int .i64 r0, .int .u64 r1].toArray 35)).alloc (.cells [.int .i64 r2, .int .u64 r3].toArray 35))
    have U4 := Aside0.mk (((T4.out.below HB2.out).alloc (.cells [.int .i64 r0, .int .u64 r1].toArray 35)).alloc (.cells [.int .i64 r2, .int .u64 r3].toArray 35))
    have U6 := Aside0.mk ((Blk.new w2 [.int .i64 r0, .int .u64 r1] 35).alloc (.cells [.int .i64 r2, .int .u64 r3].toArray 35))
    have U7 := Aside0.mk (Blk.newAt (w2.alloc (.cells [.int .i64 r0, .int .u64 r1].toArray 35)) (g := w2.heap.size + 1) (by simp) [.int .i64 r2, .int .u64 r3] 35)
    have hw2 := bstep HW.out HB2.out
    have HW2 := Aside0.mk ((hw2.alloc hw2.size (.cells [.int .i64 r0, .int .u64 r1].toArray 35)).alloc (by have := hw2.size; simp; omega) (.cells [.int .i64 r2, .int .u64 r3].toArray 35))
    clear hw2 HB2 T3 T4 HW
    generalize World.alloc _ _ = W2 at *
    generalize hg7 : w2.heap.size + 1 = g7 at *
    generalize w2.heap.size = g6 at *
    clear hg7
    have y0 : W2.cell? ⟨g3, 0, none⟩ = some (.int .i64 r0) := U3.out.cell 0
    have y1 : W2.cell? ⟨g3, 1, none⟩ = some (.int .u64 r1) := U3.out.cell 1
    have y2 : W2.cell? ⟨g4, 0, none⟩ = some (.int .i64 r2) := U4.out.cell 0
    have y3 : W2.cell? ⟨g4, 1, none⟩ = some (.int .u64 r3) := U4.out.cell 1
    have y4 : W2.cell? ⟨g6, 0, none⟩ = some (.int .i64 r0) := U6.out.cell 0
    have y5 : W2.cell? ⟨g6, 1, none⟩ = some (.int .u64 r1) := U6.out.cell 1
    have y6 : W2.cell? ⟨g7, 0, none⟩ = some (.int .i64 r2) := U7.out.cell 0
    have y7 : W2.cell? ⟨g7, 1, none⟩ = some (.int .u64 r3) := U7.out.cell 1
    clear U3 U4 U6 U7
    go_wp2_with (go_at_call 30; refine (lives_calls _).mono ?_; rintro e w3 ⟨rfl, hb3⟩)
    go_ret
    exact ⟨rfl, bstep HW2.out hb3⟩
end Go.Proofs.Ytlmabdiodopidaa.G
end
section
namespace Go.Proofs.Ytlmabdiodopidaa.G
open Go.RowKit Go.Proofs.Ytlmabdiodopidaa.P Go.Proofs.YtlmabdiodopidaaW.PrintWords

theorem mag_ok {a b : Int} (h : okW a b) : okU (hi (absI (val a b))) ∧ okU (lo (absI (val a b))) := by
  obtain ⟨⟨h1, h2⟩, h3, h4⟩ := h
  unfold okU hi lo absI
  unfold val
  split <;> omega
/-- a number with a sign and a size -/
def sgn (b : Bool) (m : Int) : Int := if b = true then -m else m
theorem val_neg_iff {a b : Int} (h : okW a b) : a < 0 ↔ val a b < 0 := by
  obtain ⟨⟨h1, h2⟩, h3, h4⟩ := h
  unfold val; omega
/-! ### the reference's -/
end Go.Proofs.Ytlmabdiodopidaa.G
end
section
namespace Go.Proofs.Ytlmabdiodopidaa.G
open Go.RowKit Go.Proofs.Ytlmabdiodopidaa.P Go.Proofs.YtlmabdiodopidaaW.PrintWords
theorem wide_Add_eq {a b c d : Int} (h1 : okW a b) (h2 : okW c d) : wide_Add.f a b c d = some (out (val a b + val c d)) := by
  unfold wide_Add.f
  rw [if_pos ⟨h1, h2⟩]
end Go.Proofs.Ytlmabdiodopidaa.G
end
section
namespace Go.Proofs.Ytlmabdiodopidaa.G
open Go.RowKit Go.Proofs.Ytlmabdiodopidaa.P Go.Proofs.YtlmabdiodopidaaW.PrintWords

theorem ref_Split_eq {a b : Int} (h : okW a b) : corebankref01_Split.f a b = some (decide (val a b < 0), hi (absI (val a b)), lo (absI (val a b))) := by
  have hs := val_neg_iff h
  obtain ⟨⟨h1, h2⟩, h3, h4⟩ := h
  have n1 := not64_eq ⟨h3, h4⟩
  unfold corebankref01_Split.f
  rw [n1]
  by_cases ha : a ≥ 0
  · rw [if_pos ha]
    have : ¬ val a b < 0 := fun h => by have := hs.2 h; omega
    unfold absI
    rw [if_neg this]
    simp only [this, decide_false, Option.some.injEq, Prod.mk.injEq, IntKind.wrap_u64, true_and]
    unfold hi lo val
    omega
  · rw [if_neg ha]
    have hv : val a b < 0 := hs.1 (by omega)
    have n2 : not64 (IntKind.u64.wrap a) = -1 - a := by
      rw [not64_eq (by simp only [IntKind.wrap_u64]; unfold okU; omega)]
      simp only [IntKind.wrap_u64]; omega
    rw [n2]
    unfold absI
    rw [if_pos hv]
    simp only [hv, decide_true, IntKind.wrap_u64]
    unfold hi lo
    unfold val at hv ⊢
    split <;> simp only [Option.some.injEq, Prod.mk.injEq, true_and] <;> omega
theorem ref_Join_eq {a b : Int} {m : Bool} (h1 : okU a) (h2 : okU b) : ∃ x y, corebankref01_Join.f m a b = some (x, y, decide (fits (sgn m (val a b)))) ∧ (fits (sgn m (val a b)) → x = hi (sgn m (val a b)) ∧ y = lo (sgn m (val a b))) := by
  have n1 := not64_eq h1
  have n2 := not64_eq h2
  unfold okU at h1 h2
  unfold corebankref01_Join.f
  rw [n1, n2]
  cases m
  · refine ⟨_, _, by rw [if_neg (by simp)]; rw [show decide (a < 9223372036854775808) = decide (fits (sgn false (val a b))) by rw [decide_eq_decide]; unfold fits sgn val; simp; omega], ?_⟩
    intro hf
    unfold fits sgn val at hf
    unfold sgn hi lo wrap64 val
    simp at hf ⊢
    omega
  · rw [if_pos rfl]
    have key : ∀ x y : Int, ∀ c : Bool, (c = true ↔ fits (sgn true (val a b))) → (fits (sgn true (val a b)) → x = hi (sgn true (val a b)) ∧ y = lo (sgn true (val a b))) → ∃ x' y', some (x, y, c) = some (x', y', decide (fits (sgn true (val a b)))) ∧ (fits (sgn true (val a b)) → x' = hi (sgn true (val a b)) ∧ y' = lo (sgn true (val a b))) := by
      intro x y c hc hxy
      refine ⟨x, y, ?_, hxy⟩
      have : c = decide (fits (sgn true (val a b))) := by rw [Bool.eq_iff_iff, hc]; simp
      rw [this]
    have hfi : fits (sgn true (val a b)) ↔ (a < 9223372036854775808 ∨ a = 9223372036854775808 ∧ b = 0) := by unfold fits sgn val; simp; omega
    have ehi : hi (sgn true (val a b)) = if b = 0 then -a else -1 - a := by unfold hi sgn val; simp; split <;> omega
    have elo : lo (sgn true (val a b)) = if b = 0 then 0 else 18446744073709551616 - b := by unfold lo sgn val; simp; split <;> omega
    simp only [IntKind.wrap_u64]
    repeat' split
    all_goals
      refine key _ _ _ (by rw [hfi]; simp; try omega) (fun hf => ?_)
      rw [hfi] at hf
      rw [ehi, elo]
      unfold wrap64
      split <;> omega
theorem ref_Less_eq {a b c d : Int} (h1 : okU b) (h2 : okU d) : corebankref01_Less.f a b c d = some (decide (val a b < val c d)) := by
  unfold okU at h1 h2
  unfold corebankref01_Less.f val
  split
  · simp; omega
  · split <;> simp <;> omega
theorem ref_minus_eq {a b c d : Int} (h1 : okU a) (h2 : okU b) (h3 : okU c) (h4 : okU d) (h : val c d ≤ val a b) : corebankref01_minus.f a b c d = some (hi (val a b - val c d), lo (val a b - val c d)) := by
  unfold okU at h1 h2 h3 h4
  unfold val at h
  unfold corebankref01_minus.f hi lo val
  simp only [IntKind.wrap_u64]
  split <;> simp only [Option.some.injEq, Prod.mk.injEq] <;> omega
theorem sgn_fits_out {s : Int} {x y : Int} (h : fits s → x = hi s ∧ y = lo s) : (if decide (fits s) = true then some (x, y, (0 : Int)) else some (0, 0, 6)) = some (out s) := by
  unfold out
  by_cases hf : fits s
  · obtain ⟨rfl, rfl⟩ := h hf
    rw [if_pos (by simpa using hf), if_pos hf]
  · rw [if_neg (by simpa using hf), if_neg hf]
theorem ref_sum_eq {a b c d : Int} {m n : Bool} (h1 : okU a) (h2 : okU b) (h3 : okU c) (h4 : okU d) : corebankref01_sum.f m a b n c d = some (out (sgn m (val a b) + sgn n (val c d))) := by
  have p1 : 0 ≤ val a b := by unfold okU at h1 h2; unfold val; omega
  have p2 : 0 ≤ val c d := by unfold okU at h3 h4; unfold val; omega
  have q1 : val a b < 340282366920938463463374607431768211456 := by unfold okU at h1 h2; unfold val; omega
  have q2 : val c d < 340282366920938463463374607431768211456 := by unfold okU at h3 h4; unfold val; omega
  have okp : ∀ s : Int, okU (lo s) := fun s => by unfold okU lo; omega
  have okq : ∀ s : Int, 0 ≤ s → s < 340282366920938463463374607431768211456 → okU (hi s) := fun s h1 h2 => by unfold okU hi; omega
  unfold corebankref01_sum.f
  by_cases hmn : m = n
  · subst hmn
    rw [if_pos (by simp)]
    unfold corebankref01_plus.f
    rw [if_pos ⟨h1, h2, h3, h4⟩]
    simp only [Option.bind_some]
    have e : sgn m (val a b) + sgn m (val c d) = sgn m (val a b + val c d) := by unfold sgn; split <;> omega
    rw [e]
    have p3 : 0 ≤ val a b + val c d := by omega
    generalize val a b + val c d = s at *
    by_cases hs : s < 340282366920938463463374607431768211456
    · obtain ⟨x, y, hj, hxy⟩ := ref_Join_eq (m := m) (show okU (hi s % 18446744073709551616) by unfold okU; omega) (okp s)
      have e2 : val (hi s % 18446744073709551616) (lo s) = s := by
        rw [show hi s % 18446744073709551616 = hi s by unfold hi; omega]; exact val_hi_lo s
      rw [e2] at hj hxy
      rw [hj]
      simp only [Option.bind_some, hs, decide_true, if_true]
      exact sgn_fits_out hxy
    · obtain ⟨x, y, hj, _⟩ := ref_Join_eq (m := m) (show okU (hi s % 18446744073709551616) by unfold okU; omega) (okp s)
      rw [hj]
      simp only [Option.bind_some, hs, decide_false]
      unfold out
      rw [if_neg (by simp), if_neg]
      unfold fits sgn
      split <;> omega
  · rw [if_neg (by simpa using hmn)]
    rw [ref_Less_eq h2 h4]
    simp only [Option.bind_some]
    have hn : n = !m := by cases m <;> cases n <;> simp_all
    by_cases hl : val a b < val c d
    · rw [if_pos (by simpa using hl), ref_minus_eq h3 h4 h1 h2 (by omega)]
      simp only [Option.bind_some]
      obtain ⟨x, y, hj, hxy⟩ := ref_Join_eq (m := n) (okq (val c d - val a b) (by omega) (by omega)) (okp _)
      rw [val_hi_lo] at hj hxy
      rw [hj]
      simp only [Option.bind_some]
      have e : sgn m (val a b) + sgn n (val c d) = sgn n (val c d - val a b) := by subst hn; unfold sgn; cases m <;> simp <;> omega
      rw [e]
      exact sgn_fits_out hxy
    · rw [if_neg (by simpa using hl), ref_minus_eq h1 h2 h3 h4 (by omega)]
      simp only [Option.bind_some]
      obtain ⟨x, y, hj, hxy⟩ := ref_Join_eq (m := m) (okq (val a b - val c d) (by omega) (by omega)) (okp _)
      rw [val_hi_lo] at hj hxy
      rw [hj]
      simp only [Option.bind_some]
      have e : sgn m (val a b) + sgn n (val c d) = sgn m (val a b - val c d) := by subst hn; unfold sgn; cases m <;> simp <;> omega
      rw [e]
      exact sgn_fits_out hxy
theorem sgn_absI (s : Int) : sgn (decide (s < 0)) (absI s) = s := by
  unfold sgn absI
  by_cases h : s < 0 <;> simp [h]
theorem ref_Add_eq {a b c d : Int} (h1 : okW a b) (h2 : okW c d) : corebankref01_Add.f a b c d = some (out (val a b + val c d)) := by
  unfold corebankref01_Add.f
  rw [ref_Split_eq h1, ref_Split_eq h2]
  simp only [Option.bind_some]
  obtain ⟨m1, m2⟩ := mag_ok h1
  obtain ⟨m3, m4⟩ := mag_ok h2
  rw [ref_sum_eq m1 m2 m3 m4, val_hi_lo, val_hi_lo, sgn_absI, sgn_absI]
  rfl
end Go.Proofs.Ytlmabdiodopidaa.G
end
section
namespace Go.Proofs.Ytlmabdiodopidaa.G
open Go.RowKit Go.Proofs.Ytlmabdiodopidaa.P Go.Proofs.YtlmabdiodopidaaW.PrintWords
theorem okU_of {n : Int} (h : okN .u64 n) : okU n := by
  unfold okN Lit.wf at h
  unfold okU
  simp [IntKind.min, IntKind.max, IntKind.signed, IntKind.bits] at h
  omega
theorem okI_of {n : Int} (h : okN .i64 n) : okI n := by
  unfold okN Lit.wf at h
  unfold okI
  simp [IntKind.min, IntKind.max, IntKind.signed, IntKind.bits] at h
  omega
theorem out_ok {s : Int} (h : (out s).2.2 = 0) : okW (out s).1 (out s).2.1 := by
  unfold out at h ⊢
  split
  · rename_i hf
    exact okW_of_fits hf
  · rename_i hf
    rw [if_neg hf] at h
    cases h
theorem tot_both : ∀ (l : List S66) (a b c d : Int), okW a b → okW c d → (∀ x ∈ l, okW x.f3.f0 x.f3.f1 ∧ okW x.f4.f0 x.f4.f1) → ∃ r0 r1 r2 r3 er, totP wide_Add.f l a b c d = some (r0, r1, r2, r3, er) ∧ totP corebankref01_Add.f l a b c d = some (r0, r1, r2, r3, er)
  | [], a, b, c, d, _, _, _ => ⟨a, b, c, d, 0, rfl, rfl⟩
  | x :: l, a, b, c, d, h1, h2, h3 => by
    obtain ⟨o1, o2⟩ := h3 x List.mem_cons_self
    unfold totP
    rw [wide_Add_eq h1 o1, wide_Add_eq h2 o2, ref_Add_eq h1 o1, ref_Add_eq h2 o2]
    simp only [Option.bind_some]
    by_cases h : (out (val a b + val x.f3.f0 x.f3.f1)).2.2 = 0 ∧ (out (val c d + val x.f4.f0 x.f4.f1)).2.2 = 0
    · rw [if_pos h, if_pos h]
      exact tot_both l _ _ _ _ (out_ok h.1) (out_ok h.2) (fun y hy => h3 y (List.mem_cons_of_mem _ hy))
    · rw [if_neg h, if_neg h]
      exact ⟨0, 0, 0, 0, 6, rfl, rfl⟩
end Go.Proofs.Ytlmabdiodopidaa.G
end
section
namespace Go.Proofs.Ytlmabdiodopidaa.G
open Go.RowKit Go.Proofs.YtlmabdiodopidaaW.PrintWords Go.Proofs.YtlmabdiodopidaaW.PrintLast Go.Proofs.YtlmabdiodopidaaW.PrintMore Go.Proofs.Ytlmabdiodopidaa.P
set_option maxRecDepth 100000
def wf35 (x : S35) : Prop := okN .i64 x.f0 ∧ okN .u64 x.f1
theorem op35 : Opens Try.prog 35 k35 wf35 := opens_struct (d := (Kd.pair (Kd.int .i64) (Kd.int .u64))) (wf := wfp (okN .i64) (okN .u64)) (fun x : S35 => (x.f0, x.f1)) (fun p => ⟨p.1, p.2⟩) (fun _ => rfl) Try.underlying35 (show Try.prog.cellsOf 35 = 2 by kernel_rfl) (opens_cons 0 0 1 3 (Kd.int .i64) (Kd.int .u64) (okN .i64) (okN .u64) rfl (show Try.prog.cellsOf 3 = 1 by kernel_rfl) rfl (opens_int Try.underlying3) (opens_last 1 1 33 (Kd.int .u64) (okN .u64) rfl (show Try.prog.cellsOf 33 = 1 by kernel_rfl) (opens_int Try.underlying33)))
def wf66 (x : S66) : Prop := okN .i64 x.f0 ∧ okN .i64 x.f1 ∧ okN .i64 x.f2 ∧ wf35 x.f3 ∧ wf35 x.f4
theorem op66 : Opens Try.prog 66 k66 wf66 := opens_struct (d := (Kd.pair (Kd.int .i64) (Kd.pair (Kd.int .i64) (Kd.pair (Kd.int .i64) (Kd.pair k35 k35))))) (wf := wfp (okN .i64) (wfp (okN .i64) (wfp (okN .i64) (wfp (wf35) (wf35))))) (fun x : S66 => (x.f0, (x.f1, (x.f2, (x.f3, x.f4))))) (fun p => ⟨p.1, p.2.1, p.2.2.1, p.2.2.2.1, p.2.2.2.2⟩) (fun _ => rfl) Try.underlying66 (show Try.prog.cellsOf 66 = 7 by kernel_rfl) (opens_cons 0 0 1 3 (Kd.int .i64) (Kd.pair (Kd.int .i64) (Kd.pair (Kd.int .i64) (Kd.pair k35 k35))) (okN .i64) (wfp (okN .i64) (wfp (okN .i64) (wfp (wf35) (wf35)))) rfl (show Try.prog.cellsOf 3 = 1 by kernel_rfl) rfl (opens_int Try.underlying3) (opens_cons 1 1 2 3 (Kd.int .i64) (Kd.pair (Kd.int .i64) (Kd.pair k35 k35)) (okN .i64) (wfp (okN .i64) (wfp (wf35) (wf35))) rfl (show Try.prog.cellsOf 3 = 1 by kernel_rfl) rfl (opens_int Try.underlying3) (opens_cons 2 2 3 3 (Kd.int .i64) (Kd.pair k35 k35) (okN .i64) (wfp (wf35) (wf35)) rfl (show Try.prog.cellsOf 3 = 1 by kernel_rfl) rfl (opens_int Try.underlying3) (opens_cons 3 3 5 35 k35 k35 (wf35) (wf35) rfl (show Try.prog.cellsOf 35 = 2 by kernel_rfl) rfl op35 (opens_last 4 5 35 k35 (wf35) rfl (show Try.prog.cellsOf 35 = 2 by kernel_rfl) op35)))))

end Go.Proofs.Ytlmabdiodopidaa.G
end
