/- Texts of this seat, joined: Clone, Px11, Px13, Px14, Px15, Px16, Px17, Len, Px5. Lemmas for the claim's theorem. -/
import Derived.Shelf.SlicesE.Clone
import Derived.Test.YtlmabdiodopidaaJ5
section
set_option linter.unusedVariables false
set_option linter.unusedSimpArgs false
namespace Go.RowKit
open Go.Proofs.YtlmabdiodopidaaW.PrintWords
/-- the cells of a row that is read -/
theorem C_news {α : Type} {d : Kd α} {w : World} {A : Option Addr} {n : Nat} {xs : List α} (h : d.C w A n xs) {ad : Addr} (hA : A = some ad) : ∃ news, Reps (d.K w) d.sz xs news ∧ (∀ j u, news[j]? = some u → w.cell? (ad.add j) = some u) ∧ ∀ u ∈ news, u.oneCell' = true := by
  have key : ∀ k, k ≤ n → ∃ news, Reps (d.K w) d.sz (xs.take k) news ∧ (∀ j u, news[j]? = some u → w.cell? (ad.add j) = some u) ∧ ∀ u ∈ news, u.oneCell' = true := by
    intro k
    induction k with
    | zero => intro _; exact ⟨[], by simpa using Reps.none _ _, by simp, by simp⟩
    | succ k ih =>
      intro hk
      obtain ⟨news, hR, hc, h1⟩ := ih (by omega)
      obtain ⟨ad', e, hh⟩ := h.2.2 (by omega)
      obtain rfl : ad' = ad := by rw [e] at hA; exact Option.some.inj hA
      have hl : k < xs.length := by have := h.1; omega
      obtain ⟨c, hcl, hK, hcell⟩ := hh k _ (List.getElem?_eq_getElem hl)
      have hnl : news.length = k * d.sz := by rw [hR.1, List.length_take, Nat.min_eq_left (by omega)]
      refine ⟨news ++ c, ?_, ?_, ?_⟩
      · rw [List.take_succ_eq_append_getElem hl]
        exact hR.snoc hK hcl
      · intro j u hj
        by_cases hj1 : j < news.length
        · rw [List.getElem?_append_left hj1] at hj
          exact hc j u hj
        · rw [List.getElem?_append_right (by omega)] at hj
          have := hcell _ u hj
          rwa [← hnl, Nat.add_sub_cancel' (by omega)] at this
      · intro u hu
        rcases List.mem_append.1 hu with hu | hu
        · exact h1 u hu
        · exact d.K_one hK u hu
  obtain ⟨news, hR, h2⟩ := key n (Nat.le_refl _)
  rw [List.take_of_length_le (by have := h.1; omega)] at hR
  exact ⟨news, hR, h2⟩
end Go.RowKit
namespace Go.Proofs.Ytlmabdiodopidaa.G
set_option maxRecDepth 100000
open Go.RowKit Go.Proofs.YtlmabdiodopidaaW.PrintWords Go.Proofs.YtlmabdiodopidaaW.PrintLast Go.Proofs.YtlmabdiodopidaaW.PrintMore Go.Proofs.Ytlmabdiodopidaa.P
set_option maxHeartbeats 300000 in
theorem clone_calls (A : Option Addr) (c : Nat) (l : List S50) (w0 w : World) (hb0 : Below w0.heap.size w0 w) (hr : Kd.C k50 w0 A l.length l) (hlen : l.length * 16 ≤ 140737488355328) :
    Calls Try.prog 97 #[.slice A l.length c] w fun e w' => ∃ A' c', e = .returned (.slice A' l.length c') ∧ Kd.R k50 50 w' w.heap.size (fun k => w.heap.size ≤ k) (.slice A' l.length c') l ∧ Below w.heap.size w w' := by
  have q22 : ∀ (w : World) (a : Option Addr) (n c n' c' : Nat), (binOp .eql 22 (.slice a n c) (.slice none n' c')).run Try.prog w = .ok (.bool a.isNone) w := fun w a n c n' c' => Lib.run_eql_slice_nil w _ _ a n c n' c' Try.underlying22
  have HR := Aside0.mk (Kd.C_below hr hb0)
  have HLN := Aside0.mk hlen
  clear hr hb0 hlen
  cases A with
  | none =>
    have hl0 : l = [] := by
      have h := HR.out.2.2
      by_cases h0 : 0 < l.length
      · obtain ⟨ad, e, _⟩ := h h0
        cases e
      · exact List.length_eq_zero_iff.1 (by omega)
    subst hl0
    go_enter Try.func97, Try.ntmps97
    go_wp2
    go_ret
    exact ⟨none, 0, rfl, ⟨by simp [Value.ownBlock], [], ⟨rfl, .inl ⟨rfl, rfl⟩⟩, Reps.none _ _⟩, Below.refl _ _⟩
  | some ad =>
    obtain ⟨i0, hi, hz0, hz1, hz2⟩ := info_parts (show (Try.prog.info? 50).map (fun i => (i.zero, i.size, i.bytes)) = some (some (.agg #[.int .i64 0, .int .i64 0]), 2, 16) by kernel_rfl)
    obtain ⟨news, hR, hc, h1⟩ := C_news HR.out rfl
    have RP := Aside0.mk hR
    have CC := Aside0.mk hc
    have H1 := Aside0.mk h1
    have I0 := Aside0.mk (And.intro hi (And.intro hz0 (And.intro hz1 hz2)))
    clear hR hc h1 hi hz0 hz1 hz2
    go_enter Try.func97, Try.ntmps97
    go_wp2_with (at_builtin; refine wpList_append_own _ rfl _ _ 22 rfl w.heap.size 50 i0 (.agg #[.int .i64 0, .int .i64 0]) 2 16 Try.underlying22 I0.out.1 I0.out.2.1 I0.out.2.2.1 I0.out.2.2.2 rfl (by decide) _ _ _ rfl (World.ownsRow_made w #[] 0 (Nat.le_refl _) (Nat.zero_le _) (by simp)) ad l.length c news rfl ?qc1 ?qc2 H1.out ?qc4 ?qc5 ?qc6 ?_)
    case qc1 => exact RP.out.1
    case qc2 =>
      intro j u hj
      exact Lib.cell?_alloc_some _ (CC.out j u hj)
    case qc4 => rw [Nat.zero_add]; exact Kd.C_max HR.out
    case qc5 => rw [Nat.zero_add]; exact HLN.out
    case qc6 => simp
    intro v' w1 hown hgrow hnil
    have hB := ((Below.refl _ w).alloc (Nat.le_refl _) _).grown hgrow (by simp) (by intro k hk; simp [Value.ownBlock] at hk; omega)
    have hRW : ∀ base ok, Reps (k50.M w1 base ok) 2 l news := fun base ok => RP.out.imp_ (fun p c hp => by
      obtain rfl := k50_open hp
      exact k50_mkM w1 base ok p)
    obtain ⟨A', c', rfl⟩ := own_slice hown
    have hRR : Kd.R k50 50 w1 w.heap.size (fun k => w.heap.size ≤ k) (.slice A' l.length c') l := ⟨fun k hk => own_base hown k hk, news, hown, hRW _ _⟩
    have HB := Aside0.mk hB
    have HRD := Aside0.mk hRR
    clear hown hgrow hnil hB hRW hRR RP CC H1
    go_wp2
    go_ret
    exact ⟨_, _, rfl, HRD.out, HB.out⟩
theorem intr_get {w : World} {x : Intr} {cs : List Value} (h : kIntr.K w x cs) : ∃ A c, cs.length = 5 ∧ cs[0]? = some (.slice A x.tiers.length c) ∧ cs[1]? = some (.bool x.marg) ∧ cs[2]? = some (.int .i64 x.basis) ∧ x.tiers.length ≤ c ∧ Kd.C k50 w A x.tiers.length x.tiers := by
  obtain ⟨A, c, rfl, hl, hC⟩ := kIntr_open h
  exact ⟨A, c, rfl, rfl, rfl, rfl, hl, hC⟩
theorem intr_set {w w1 : World} {x : Intr} {cs : List Value} (h : kIntr.K w x cs) {A : Option Addr} {c : Nat} (hl : x.tiers.length ≤ c) (hC : Kd.C k50 w1 A x.tiers.length x.tiers) : kIntr.K w1 x (cs.set 0 (.slice A x.tiers.length c)) := by
  obtain ⟨_, _, rfl, ⟨A', c', rfl, hl', hC'⟩, h2⟩ := h
  exact ⟨_, _, rfl, ⟨A, c, rfl, hl, hC⟩, h2⟩
theorem prd_sides {w : World} {x : Prd} {cs : List Value} (h : kPrd.K w x cs) : cs.length = 19 ∧ kIntr.K w x.cr ((cs.drop 7).take 5) ∧ kIntr.K w x.db ((cs.drop 12).take 5) := by
  obtain ⟨_, _, rfl, rfl, _, _, rfl, ⟨rfl, h1⟩, _, _, rfl, ⟨rfl, h2⟩, _, _, rfl, rfl, _, _, rfl, ⟨rfl, h4⟩, _, _, rfl, ⟨rfl, h5⟩, _, _, rfl, ⟨rfl, h6⟩, c1, _, rfl, k1, c2, _, rfl, k2, _, _, rfl, ⟨rfl, h7⟩, ⟨rfl, h8⟩⟩ := h
  obtain ⟨A1, b1, e1, _⟩ := kIntr_open k1
  obtain ⟨A2, b2, e2, _⟩ := kIntr_open k2
  refine ⟨?_, ?_, ?_⟩
  · rw [e1, e2]; rfl
  · rw [e1] at k1 ⊢; rw [e2]; exact k1
  · rw [e2] at k2 ⊢; rw [e1]; exact k2
/-- the interest of a side -/
def sideP (p : Prd) (bal : Int) : Intr := if bal < 0 then p.db else p.cr
abbrev zIn : List Value := [.slice none 0 0, .bool false, .int .i64 0, .int .i64 0, .bool false]
set_option maxHeartbeats 300000 in
theorem side_calls (cs : List Value) (p : Prd) (bal : Int) (w0 w : World) (hb0 : Below w0.heap.size w0 w) (hk : kPrd.K w0 p cs) (h20 : p.cr.tiers.length * 16 ≤ 140737488355328 ∧ p.db.tiers.length * 16 ≤ 140737488355328) :
    Calls Try.prog 90 #[.agg cs.toArray, .int .i64 bal] w fun e w' => ∃ ci, e = .returned (.agg ci.toArray) ∧ kIntr.K w' (sideP p bal) ci ∧ Below w.heap.size w w' := by
  obtain ⟨hl, k1, k2⟩ := prd_sides hk
  have K1 := Aside0.mk k1
  have K2 := Aside0.mk k2
  have HB0 := Aside0.mk hb0
  have L1 : Aside0 (((cs.drop 7).take 5).length = 5) := ⟨by simp; omega⟩
  have L2 : Aside0 (((cs.drop 12).take 5).length = 5) := ⟨by simp; omega⟩
  clear hk k1 k2 hb0 hl
  have WB := (((Below.refl w.heap.size w).alloc (Nat.le_refl _) (.cells cs.toArray 98)).alloc (by simp) (.cells zIn.toArray 94))
  have BX := ((Blk.new w cs 98).alloc (.cells zIn.toArray 94)).rng
  have BX1 := Aside0.mk (((Blk.new w cs 98).alloc (.cells zIn.toArray 94)).alloc (.cells ((cs.drop 7).take 5).toArray 94)).rng
  have WB0 := Aside0.mk WB
  have BX0 := Aside0.mk BX
  clear WB BX
  by_cases h : bal < 0
  · have e : sideP p bal = p.db := by unfold sideP; rw [if_pos h]
    have HLN := Aside0.mk h20.2
    clear h20
    rw [e]
    clear e
    obtain ⟨At, ct, -, i0, -, -, hlt, hCt⟩ := intr_get K2.out
    have HC := Aside0.mk hCt
    clear hCt
    have hx : ∀ W : World, ∀ W1, Below W.heap.size W W1 → True := fun _ _ _ => trivial
    clear hx
    go_enter Try.func90, Try.ntmps90
    go_upto_region 4 with (first
      | (refine ld_rng rfl 94 _ rfl (p := ⟨w.heap.size, 7, none⟩) rfl (cs := (cs.drop 7).take 5) ?_ Try.underlying94 rfl ?_ ?_; (exact BX0.out.part 7 5); (rw [L1.out]; kernel_rfl))
      | (refine st_newAt rfl 94 _ _ rfl rfl (g := w.heap.size + 1 + 1) (cs := zIn) (vs := (cs.drop 7).take 5) rfl rfl (by simp) L1.out ?_ (kIntr.K_one K1.out) ?_; (rw [L1.out]; kernel_rfl))
      | (refine ld_rng rfl 94 _ rfl (p := ⟨w.heap.size, 12, none⟩) rfl (cs := (cs.drop 12).take 5) ?_ Try.underlying94 rfl ?_ ?_; (exact BX1.out.part 12 5); (rw [L2.out]; kernel_rfl))
      | (refine st_newAt rfl 94 _ _ rfl rfl (g := w.heap.size + 1 + 1) (cs := (cs.drop 7).take 5) (vs := (cs.drop 12).take 5) rfl rfl (by simp) (L2.out.trans L1.out.symm) ?_ (kIntr.K_one K2.out) ?_; (rw [L2.out]; kernel_rfl)))
    have B0 := Blk.newAt ((w.alloc (.cells cs.toArray 98)).alloc (.cells zIn.toArray 94)) (g := w.heap.size + 1 + 1) (by simp) ((cs.drop 12).take 5) 94
    have SZ : Aside0 (w.heap.size + 3 ≤ (((w.alloc (.cells cs.toArray 98)).alloc (.cells zIn.toArray 94)).alloc (.cells ((cs.drop 12).take 5).toArray 94)).heap.size) := ⟨by simp⟩
    have HW := Aside0.mk (WB0.out.alloc (by simp; omega) (.cells ((cs.drop 12).take 5).toArray 94))
    have R0 := (Blk.newAt (w.alloc (.cells cs.toArray 98)) (g := w.heap.size + 1) (by simp) zIn 94).alloc (.cells ((cs.drop 12).take 5).toArray 94)
    have x0 := (B0.cell 0).trans i0
    generalize hci : (cs.drop 12).take 5 = ci at *
    clear hci
    have I0 := Aside0.mk i0
    clear i0
    generalize ((w.alloc (.cells cs.toArray 98)).alloc (.cells zIn.toArray 94)).alloc (.cells ci.toArray 94) = W at *
    go_wp2_with (first
      | (go_at_call 97; refine (clone_calls At ct p.db.tiers w0 _ ?_ HC.out HLN.out).mono ?_; (exact bstep HB0.out HW.out); rintro e w1 ⟨A', c', rfl, hC', hb1⟩; have B1 := B0.below hb1; have R1 := R0.below hb1; have KR := Aside0.mk hC'; obtain ⟨hn', hl', hC''⟩ := Kd.R_reads' hC'; have KK := Aside0.mk (intr_set K2.out hl' hC''); have HB1 := Aside0.mk (bstep HW.out hb1); have y0 := (B1.cell 0).trans I0.out; have z0 := B1.frozen 0; clear hb1 hC' hC'' hn')
      | (refine ld_rng rfl 94 _ rfl (p := ⟨w.heap.size + 1 + 1, 0, none⟩) rfl (cs := ci.set 0 (.slice A' p.db.tiers.length c')) ?_ Try.underlying94 rfl ?_ ?_; (exact (B1.setc 0 _).rng); (rw [List.length_set, L2.out]; kernel_rfl))
      | (refine st_blk rfl 94 _ _ rfl rfl (g := w.heap.size + 1) (vs := ci.set 0 (.slice A' p.db.tiers.length c')) rfl rfl (R1.set (p := ⟨w.heap.size + 1 + 1, 0, none⟩) (by simp) _) ?_ ?_ (kIntr.K_one KK.out) ?_; (exact (List.length_set).trans L2.out); (rw [List.length_set, L2.out]; kernel_rfl); intro B4))
    exact bodyPost_ret (ret_cell Try.results90 _ _ rfl B4 Try.underlying94 rfl (by rw [List.length_set, L2.out]; kernel_rfl)) rfl (by
      refine ⟨_, rfl, ?_, Below.setCells _ (by omega) _ _ (HB1.out.setCell (by simp; omega) _)⟩
      have hm := Kd.R_step KR.out (w1 := (w1.setCell ⟨w.heap.size + 1 + 1, 0, none⟩ (.slice A' p.db.tiers.length c')).setCells (w.heap.size + 1) 0 (ci.set 0 (.slice A' p.db.tiers.length c'))) (fun k hk hlt => by
        have hk' : w.heap.size + 3 ≤ k := Nat.le_trans SZ.out hk
        rw [heap_setCells _ _ (by omega), Below.heap_setCell _ _ _ _ (by simp; omega)])
      obtain ⟨_, hl2, hC2⟩ := Kd.R_reads' hm
      exact intr_set K2.out hl2 hC2)
  · have e : sideP p bal = p.cr := by unfold sideP; rw [if_neg h]
    have HLN := Aside0.mk h20.1
    clear h20
    rw [e]
    clear e
    obtain ⟨At, ct, -, i0, -, -, hlt, hCt⟩ := intr_get K1.out
    have HC := Aside0.mk hCt
    clear hCt
    have hx : ∀ W : World, ∀ W1, Below W.heap.size W W1 → True := fun _ _ _ => trivial
    clear hx
    go_enter Try.func90, Try.ntmps90
    go_upto_region 4 with (first
      | (refine ld_rng rfl 94 _ rfl (p := ⟨w.heap.size, 7, none⟩) rfl (cs := (cs.drop 7).take 5) ?_ Try.underlying94 rfl ?_ ?_; (exact BX0.out.part 7 5); (rw [L1.out]; kernel_rfl))
      | (refine st_newAt rfl 94 _ _ rfl rfl (g := w.heap.size + 1 + 1) (cs := zIn) (vs := (cs.drop 7).take 5) rfl rfl (by simp) L1.out ?_ (kIntr.K_one K1.out) ?_; (rw [L1.out]; kernel_rfl)))
    have B0 := Blk.newAt ((w.alloc (.cells cs.toArray 98)).alloc (.cells zIn.toArray 94)) (g := w.heap.size + 1 + 1) (by simp) ((cs.drop 7).take 5) 94
    have SZ : Aside0 (w.heap.size + 3 ≤ (((w.alloc (.cells cs.toArray 98)).alloc (.cells zIn.toArray 94)).alloc (.cells ((cs.drop 7).take 5).toArray 94)).heap.size) := ⟨by simp⟩
    have HW := Aside0.mk (WB0.out.alloc (by simp; omega) (.cells ((cs.drop 7).take 5).toArray 94))
    have R0 := (Blk.newAt (w.alloc (.cells cs.toArray 98)) (g := w.heap.size + 1) (by simp) zIn 94).alloc (.cells ((cs.drop 7).take 5).toArray 94)
    have x0 := (B0.cell 0).trans i0
    generalize hci : (cs.drop 7).take 5 = ci at *
    clear hci
    have I0 := Aside0.mk i0
    clear i0
    generalize ((w.alloc (.cells cs.toArray 98)).alloc (.cells zIn.toArray 94)).alloc (.cells ci.toArray 94) = W at *
    go_wp2_with (first
      | (go_at_call 97; refine (clone_calls At ct p.cr.tiers w0 _ ?_ HC.out HLN.out).mono ?_; (exact bstep HB0.out HW.out); rintro e w1 ⟨A', c', rfl, hC', hb1⟩; have B1 := B0.below hb1; have R1 := R0.below hb1; have KR := Aside0.mk hC'; obtain ⟨hn', hl', hC''⟩ := Kd.R_reads' hC'; have KK := Aside0.mk (intr_set K1.out hl' hC''); have HB1 := Aside0.mk (bstep HW.out hb1); have y0 := (B1.cell 0).trans I0.out; have z0 := B1.frozen 0; clear hb1 hC' hC'' hn')
      | (refine ld_rng rfl 94 _ rfl (p := ⟨w.heap.size + 1 + 1, 0, none⟩) rfl (cs := ci.set 0 (.slice A' p.cr.tiers.length c')) ?_ Try.underlying94 rfl ?_ ?_; (exact (B1.setc 0 _).rng); (rw [List.length_set, L1.out]; kernel_rfl))
      | (refine st_blk rfl 94 _ _ rfl rfl (g := w.heap.size + 1) (vs := ci.set 0 (.slice A' p.cr.tiers.length c')) rfl rfl (R1.set (p := ⟨w.heap.size + 1 + 1, 0, none⟩) (by simp) _) ?_ ?_ (kIntr.K_one KK.out) ?_; (exact (List.length_set).trans L1.out); (rw [List.length_set, L1.out]; kernel_rfl); intro B4))
    exact bodyPost_ret (ret_cell Try.results90 _ _ rfl B4 Try.underlying94 rfl (by rw [List.length_set, L1.out]; kernel_rfl)) rfl (by
      refine ⟨_, rfl, ?_, Below.setCells _ (by omega) _ _ (HB1.out.setCell (by simp; omega) _)⟩
      have hm := Kd.R_step KR.out (w1 := (w1.setCell ⟨w.heap.size + 1 + 1, 0, none⟩ (.slice A' p.cr.tiers.length c')).setCells (w.heap.size + 1) 0 (ci.set 0 (.slice A' p.cr.tiers.length c'))) (fun k hk hlt => by
        have hk' : w.heap.size + 3 ≤ k := Nat.le_trans SZ.out hk
        rw [heap_setCells _ _ (by omega), Below.heap_setCell _ _ _ _ (by simp; omega)])
      obtain ⟨_, hl2, hC2⟩ := Kd.R_reads' hm
      exact intr_set K1.out hl2 hC2)
end Go.Proofs.Ytlmabdiodopidaa.G
end
section
set_option linter.unusedVariables false
set_option linter.unusedSimpArgs false
namespace Go.Proofs.Ytlmabdiodopidaa.P
open Go.Proofs.Ytlmabdiodopidaa.G
attribute [local go_sem high] un_not64 un_noti run_add64
open Go.RowKit Go.Proofs.YtlmabdiodopidaaW.PrintWords Go.Proofs.YtlmabdiodopidaaW.PrintLast Go.Proofs.YtlmabdiodopidaaW.PrintMore
attribute [local go_sem] max2_int min2_int max_two min_two max_three min_three max_four min_four   -- for this text's walks alone
set_option linter.unusedVariables false
set_option linter.unusedSimpArgs false

/-! ### tier_size: function 42 -/
def tier_size.f (a0 : Int) : Option (Int) := if a0 < (-9223372036854775807) then (some 9223372036854775807) else (some (mx a0 (wrap64 (-a0))))
set_option maxHeartbeats 8000000 in
set_option maxRecDepth 100000 in
theorem tier_size.calls (a0 : Int) (r : Int) (w : World) (h : tier_size.f a0 = some r) :
    Calls Try.prog 42 #[.int .i64 a0] w fun e w' => e = .returned (.int .i64 r) ∧ Below w.heap.size w w' := by
  have HB := Aside0.mk (Below.refl w.heap.size w)
  have H : (if a0 < (-9223372036854775807) then (some 9223372036854775807) else (some (mx a0 (wrap64 (-a0))))) = some r := h
  clear h
  by_cases c2 : a0 < (-9223372036854775807)
  · rw [if_pos c2] at H
    have c2b0 : decide (a0 < (-9223372036854775807)) = true := decide_eq_true c2
    clear c2
    obtain rfl := Option.some.inj H
    go_enter Try.func42, Try.ntmps42
    go_wp2
    go_ret
    exact ⟨by first | rfl | (simp [errW_none, errW_some] <;> rfl) | (simp [*, errW_none, errW_some] <;> rfl), hq HB⟩
  · rw [if_neg c2] at H
    have c2b0 : decide (a0 < (-9223372036854775807)) = false := decide_eq_false c2
    clear c2
    obtain ⟨ji3, hji3⟩ : ∃ j_ : Int, (mx a0 (wrap64 (-a0))) = j_ := ⟨_, rfl⟩
    replace H : (some ji3) = some r := by first | (rw [hji3] at H; exact H) | (simp only [hji3] at H ⊢; exact H)
    have hji3_ : (if a0 < (wrap64 (-a0)) then (wrap64 (-a0)) else a0) = ji3 := hji3
    obtain rfl := Option.some.inj H
    go_enter Try.func42, Try.ntmps42
    go_wp2
    go_ret
    exact ⟨by first | rfl | (simp [errW_none, errW_some] <;> rfl) | (simp only [← hji3]; first | rfl | (simp [errW_none, errW_some] <;> rfl)) | (simp [*, errW_none, errW_some] <;> rfl), hq HB⟩

/-! ### tier_Rate: function 19 -/
def tier_Rate.l0 : Nat → Int → Int → List (S50) → Int → Int → Option (Int)
  | 0, _, _, _, _, _ => none
  | k + 1, x1, x5, x11, x12, x13 => if x13 < x12 then (if 0 ≤ x13 then (if x13 < (x11.length : Int) then ((tier_size.f x1).bind fun t153 => (if ((rd_T50 x11 x13).f0) ≤ t153 then (tier_Rate.l0 k x1 ((rd_T50 x11 x13).f1) x11 x12 (wrap64 (x13 + 1))) else (tier_Rate.l0 k x1 x5 x11 x12 (wrap64 (x13 + 1))))) else (none)) else (none)) else (some x5)
def tier_Rate.f (k : Nat) (l0 : List (S50)) (a1 : Int) : Option (Int) := (tier_Check.f l0).bind fun t150 => (if t150 = 0 then (tier_Rate.l0 k a1 0 l0 (l0.length : Int) 0) else (some 0))
theorem tier_Rate.mono_l : ∀ k, (∀ y0 y1 y2 y3 y4, LeO (tier_Rate.l0 k y0 y1 y2 y3 y4) (tier_Rate.l0 (k + 1) y0 y1 y2 y3 y4))
  | 0 => fun _ _ _ _ _ r h => by simp [tier_Rate.l0] at h
  | k + 1 => by
    have ih0 := tier_Rate.mono_l k
    · intro y0 y1 y2 y3 y4
      unfold tier_Rate.l0
      repeat' first
      | (with_reducible exact ih0 _ _ _ _ _)
      | (with_reducible exact LeO.refl _)
      | (with_reducible exact LeO.none _)
      | (with_reducible refine LeO.ite ?_ ?_)
      | (with_reducible refine LeO.bind ?_ (fun _ => ?_))
      | exact ih0 _ _ _ _ _
      | exact LeO.none _
      | refine LeO.ite ?_ ?_
      | refine LeO.bind ?_ (fun _ => ?_)
theorem tier_Rate.mono : ∀ a0 a1 k, LeO (tier_Rate.f k a0 a1) (tier_Rate.f (k + 1) a0 a1) := by
  intro a0 a1 k
  have ih0 := tier_Rate.mono_l k
  unfold tier_Rate.f
  repeat' first
      | (with_reducible exact ih0 _ _ _ _ _)
      | (with_reducible exact LeO.refl _)
      | (with_reducible exact LeO.none _)
      | (with_reducible refine LeO.ite ?_ ?_)
      | (with_reducible refine LeO.bind ?_ (fun _ => ?_))
      | exact ih0 _ _ _ _ _
      | exact LeO.none _
      | refine LeO.ite ?_ ?_
      | refine LeO.bind ?_ (fun _ => ?_)
set_option maxHeartbeats 8000000 in
set_option maxRecDepth 100000 in
theorem tier_Rate.calls (k : Nat) (A0 : Option Addr) (c0 : Nat) (l0 : List (S50)) (a1 : Int) (r : Int) (w : World) (hr0 : Kd.C k50 w A0 l0.length l0) (hc0 : l0.length ≤ c0) (h : tier_Rate.f k l0 a1 = some r) :
    Calls Try.prog 19 #[.slice A0 l0.length c0, .int .i64 a1] w fun e w' => e = .returned (.int .i64 r) ∧ Below w.heap.size w w' := by
  have hu50 := Try.underlying50
  have HR0 := Aside0.mk hr0
  have HC0 := Aside0.mk hc0
  clear hr0 hc0
  have HB := Aside0.mk (Below.refl w.heap.size w)
  have H : ((tier_Check.f l0).bind fun t150 => (if t150 = 0 then (tier_Rate.l0 k a1 0 l0 (l0.length : Int) 0) else (some 0))) = some r := h
  clear h
  replace H := Option.bind_eq_some_iff.mp H
  obtain ⟨t150, A30, H⟩ := H
  replace H : (if t150 = 0 then (tier_Rate.l0 k a1 0 l0 (l0.length : Int) 0) else (some 0)) = some r := H
  have A3 := Aside0.mk A30
  clear A30
  by_cases c4 : t150 = 0
  · rw [if_pos c4] at H
    have c4b0 : (t150 == 0) = true := beq_iff_eq.mpr c4
    have c4b1 : (t150 != 0) = false := bne_eq_false_iff_eq.mpr c4
    clear c4
    have H' := Aside0.mk H
    clear H
    go_enter Try.func19, Try.ntmps19
    go_wp2_with (first | ((with_reducible refine gate_callee (f := 16) rfl ?_); refine goesL_ (some 9) rfl rfl Try.func16 (by kernel_rfl) rfl #[.slice A0 l0.length c0] rfl zm ?_; (with_reducible refine (tier_Check.calls _ _ l0 t150 _ ?side1 ?side2 A3.out).mono ?_); (case side1 => repeat (first | exact HR0.out | (with_reducible refine Kd.C_alloc ?_ _) | (with_reducible refine Kd.C_drewN ?_ _) | (with_reducible refine Kd.C_drew ?_))); (case side2 => exact HC0.out); rintro e w5 ⟨rfl, hb⟩; refine ⟨_, rfl, ?_⟩; replace HB := bs HB hb; (try clear hb); (try clear hb2); (try clear hk); (try clear hi)))
    go_loopg [5, 13] k (fun kq v5 v13 w' => ∃ (x5_1 : Int) (x13_1 : Int), v5 = .int .i64 x5_1 ∧ v13 = .int .i64 x13_1 ∧ Aside0 (tier_Rate.l0 kq a1 x5_1 l0 (l0.length : Int) x13_1 = some r) ∧ Aside0 (kq ≤ k) ∧ Aside0 (Below w.heap.size w w'))
    case atStart => exact ⟨(0), (0), (by first | rfl | (simp; done) | (simp [*]; done)), (by first | rfl | (simp; done) | (simp [*]; done)), H', ⟨Nat.le_refl _⟩, ⟨hq HB⟩⟩
    case round =>
      clear H'
      try clear c1
      try clear p2
      try clear c4
      try clear c4b0
      try clear c4b1
      obtain ⟨x5_1, x13_1, rfl, rfl, HA, HK1, HB⟩ := hrel
      cases gk with
      | zero => exact absurd HA.out (by simp [tier_Rate.l0])
      | succ k1 =>
        have H := HA.out
        clear HA
        simp only [tier_Rate.l0] at H
        by_cases c6 : x13_1 < (l0.length : Int)
        · rw [if_pos c6] at H
          have c6b0 : decide (x13_1 < (l0.length : Int)) = true := decide_eq_true c6
          clear c6
          by_cases c7 : 0 ≤ x13_1
          · rw [if_pos c7] at H
            have c7b0 : decide (0 ≤ x13_1) = true := decide_eq_true c7
            clear c7
            by_cases c8 : x13_1 < (l0.length : Int)
            · rw [if_pos c8] at H
              have c8b0 : decide (x13_1 < (l0.length : Int)) = true := decide_eq_true c8
              clear c8
              replace H := Option.bind_eq_some_iff.mp H
              obtain ⟨t153, A90, H⟩ := H
              replace H : (if ((rd_T50 l0 x13_1).f0) ≤ t153 then (tier_Rate.l0 k1 a1 ((rd_T50 l0 x13_1).f1) l0 (l0.length : Int) (wrap64 (x13_1 + 1))) else (tier_Rate.l0 k1 a1 x5_1 l0 (l0.length : Int) (wrap64 (x13_1 + 1)))) = some r := H
              have A9 := Aside0.mk A90
              clear A90
              by_cases c10 : ((rd_T50 l0 x13_1).f0) ≤ t153
              · rw [if_pos c10] at H
                have c10b0 : decide (((rd_T50 l0 x13_1).f0) ≤ t153) = true := decide_eq_true c10
                clear c10
                have H' := Aside0.mk H
                clear H
                have p151 : 0 ≤ (x13_1 : Int) := of_decide_eq_true (by first | (with_reducible assumption) | assumption)
                have q151 : x13_1 < (l0.length : Int) := of_decide_eq_true (by first | (with_reducible assumption) | assumption)
                obtain ⟨ad151, e151, hx151_0, hx151_1⟩ := at_T50 HR0.out x13_1 p151 q151
                cases e151
                replace hx151_0 := (HB.out.cell (World.block_lt_of_cell? w _ hx151_0)).trans hx151_0
                replace hx151_1 := (HB.out.cell (World.block_lt_of_cell? w _ hx151_1)).trans hx151_1
                replace p151 := eq_true p151
                replace q151 := eq_true q151
                try go_wp2_with (first | ((with_reducible refine gate_dst (N := 7) rfl ?_); refine box_event ?hg (N := 7) ?hd (cs := #[.int .i64 0, .int .i64 0]) (t := 50) ?hr ?_; (case hd => rfl); (case hg => rfl); (case hr => first | (go_simp; done) | (go_simp; rfl)); intro gb152 hg w11 hbox hb; have BK152 := Aside0.mk (hbox); have GW152 := ge HB hg; have GE152 := ge HB hg; replace HB := bs HB hb; clear hb hbox hg; obtain ⟨hcz12_0, hcz12_1, hfz12_0, hfz12_1⟩ := cz2 BK152))
                have n0_ : Aside0 (((w11.setCell ⟨gb152, 0, none⟩ (.int .i64 ((rd_T50 l0 x13_1).f0))).setCell ⟨gb152, 1, none⟩ (.int .i64 ((rd_T50 l0 x13_1).f1))).heap[gb152]? = some (.cells #[.int .i64 ((rd_T50 l0 x13_1).f0), .int .i64 ((rd_T50 l0 x13_1).f1)] 50 (0, 0))) := ⟨bp BK152⟩
                have n1_ : Aside0 (Below w.heap.size w ((w11.setCell ⟨gb152, 0, none⟩ (.int .i64 ((rd_T50 l0 x13_1).f0))).setCell ⟨gb152, 1, none⟩ (.int .i64 ((rd_T50 l0 x13_1).f1)))) := ⟨hq HB⟩
                (try clear BK152)
                (try clear HB)
                generalize ((w11.setCell ⟨gb152, 0, none⟩ (.int .i64 ((rd_T50 l0 x13_1).f0))).setCell ⟨gb152, 1, none⟩ (.int .i64 ((rd_T50 l0 x13_1).f1))) = w13 at n0_ n1_ ⊢
                have BK152 := n0_
                have HB := n1_
                clear n0_ n1_
                replace BK152 := bd1 BK152
                replace HB := hb1 HB
                refine start_ (n := 5) (S := fun w' => w'.cell? ⟨gb152, 0, none⟩ = some (.int .i64 ((rd_T50 l0 x13_1).f0)) ∧ w'.cell? ⟨gb152, 1, none⟩ = some (.int .i64 ((rd_T50 l0 x13_1).f1))) (ds := []) #[false, false, false, false, false] (by kernel_rfl) rfl rfl ⟨(blk_cell BK152.out 0).trans rfl, (blk_cell BK152.out 1).trans rfl⟩ (fun hHeld => ?_)
                generalize w13.drew = w14 at BK152 HB hHeld ⊢
                refine pure_ (i := 0) (N := some 17) (v := ?_) (a' := ?_) #[true, false, false, false, false] rfl rfl (by kernel_rfl) (fun _ _ _ h => h) (Or.inl ⟨by rfl, ?_⟩) ?_ ?_
                rotate_left
                · intro w'
                  go_simp
                  with_reducible rfl
                rotate_left
                · simp only [Act.put, List.setIfInBounds_toArray, List.set_cons_zero, List.set_cons_succ, i64_w, i32_w]
                  rfl
                refine pure_ (i := 2) (N := some 19) (v := ?_) (a' := ?_) #[true, false, true, false, false] rfl rfl (by kernel_rfl) (fun _ _ _ h => h) (Or.inl ⟨by rfl, ?_⟩) ?_ ?_
                rotate_left
                · intro w'
                  go_simp
                  with_reducible rfl
                rotate_left
                · simp only [Act.put, List.setIfInBounds_toArray, List.set_cons_zero, List.set_cons_succ, i64_w, i32_w]
                  rfl
                refine take_ (i := 1) (N := some 18) (v := ?_) (a' := ?_) #[true, true, true, false, false] rfl rfl (by kernel_rfl) (fun _ _ _ h => h) (Or.inl ⟨by rfl, ?_⟩) hHeld ?_ ?_
                rotate_left
                · rintro w' ⟨s0, s1⟩
                  go_simp
                  with_reducible rfl
                rotate_left
                · simp only [Act.put, List.setIfInBounds_toArray, List.set_cons_zero, List.set_cons_succ, i64_w, i32_w]
                  rfl
                refine one_ (i := 3) (N := some 20) #[true, true, true, true, false] rfl rfl (by kernel_rfl) (by decide) (fun K hK => ?_)
                refine goes_ Try.func42 (by kernel_rfl) rfl #[.int .i64 a1] (by rfl) rfl rfl zm ?_
                with_reducible refine (tier_size.calls a1 t153 _ A9.out).mono ?_
                rintro e w15 ⟨rfl, hb⟩
                refine ⟨_, rfl, ?_⟩
                replace BK152 := bb BK152 hb
                replace HB := bs HB hb
                (try clear hb)
                (try clear hb2)
                (try clear hk)
                (try clear hi)
                refine hK.out _ _ ⟨(blk_cell BK152.out 0).trans rfl, (blk_cell BK152.out 1).trans rfl⟩ (fun hHeld => ?_)
                clear hK K
                refine norm_ (a' := ?_) ?_ ?_
                rotate_left
                · show Act.put _ (some 20) _ = _
                  simp only [Act.put, List.setIfInBounds_toArray, List.set_cons_zero, List.set_cons_succ, i64_w, i32_w]
                  rfl
                refine pure_ (i := 4) (N := some 21) (v := ?_) (a' := ?_) #[true, true, true, true, true] rfl rfl (by kernel_rfl) (fun _ _ _ h => h) (Or.inl ⟨by rfl, ?_⟩) ?_ ?_
                rotate_left
                · intro w'
                  go_simp
                  with_reducible rfl
                rotate_left
                · simp only [Act.put, List.setIfInBounds_toArray, List.set_cons_zero, List.set_cons_succ, i64_w, i32_w]
                  rfl
                refine done_ (by kernel_rfl) ?_
                obtain ⟨hcz16_0, hcz16_1, hfz16_0, hfz16_1⟩ := cz2 BK152
                try go_wp2
                go_roundg k1
                case measure => have := HK1.out; omega
                case rel => exact ⟨((rd_T50 l0 x13_1).f1), (wrap64 (x13_1 + 1)), (by first | rfl | (simp; done) | (simp [*]; done)), (by first | rfl | (simp; done) | (simp [*]; done)), H', ⟨by have := HK1.out; omega⟩, ⟨hq HB⟩⟩
              · rw [if_neg c10] at H
                have c10b0 : decide (((rd_T50 l0 x13_1).f0) ≤ t153) = false := decide_eq_false c10
                clear c10
                have H' := Aside0.mk H
                clear H
                have p151 : 0 ≤ (x13_1 : Int) := of_decide_eq_true (by first | (with_reducible assumption) | assumption)
                have q151 : x13_1 < (l0.length : Int) := of_decide_eq_true (by first | (with_reducible assumption) | assumption)
                obtain ⟨ad151, e151, hx151_0, hx151_1⟩ := at_T50 HR0.out x13_1 p151 q151
                cases e151
                replace hx151_0 := (HB.out.cell (World.block_lt_of_cell? w _ hx151_0)).trans hx151_0
                replace hx151_1 := (HB.out.cell (World.block_lt_of_cell? w _ hx151_1)).trans hx151_1
                replace p151 := eq_true p151
                replace q151 := eq_true q151
                try go_wp2_with (first | ((with_reducible refine gate_dst (N := 7) rfl ?_); refine box_event ?hg (N := 7) ?hd (cs := #[.int .i64 0, .int .i64 0]) (t := 50) ?hr ?_; (case hd => rfl); (case hg => rfl); (case hr => first | (go_simp; done) | (go_simp; rfl)); intro gb152 hg w17 hbox hb; have BK152 := Aside0.mk (hbox); have GW152 := ge HB hg; have GE152 := ge HB hg; replace HB := bs HB hb; clear hb hbox hg; obtain ⟨hcz18_0, hcz18_1, hfz18_0, hfz18_1⟩ := cz2 BK152))
                have n0_ : Aside0 (((w17.setCell ⟨gb152, 0, none⟩ (.int .i64 ((rd_T50 l0 x13_1).f0))).setCell ⟨gb152, 1, none⟩ (.int .i64 ((rd_T50 l0 x13_1).f1))).heap[gb152]? = some (.cells #[.int .i64 ((rd_T50 l0 x13_1).f0), .int .i64 ((rd_T50 l0 x13_1).f1)] 50 (0, 0))) := ⟨bp BK152⟩
                have n1_ : Aside0 (Below w.heap.size w ((w17.setCell ⟨gb152, 0, none⟩ (.int .i64 ((rd_T50 l0 x13_1).f0))).setCell ⟨gb152, 1, none⟩ (.int .i64 ((rd_T50 l0 x13_1).f1)))) := ⟨hq HB⟩
                (try clear BK152)
                (try clear HB)
                generalize ((w17.setCell ⟨gb152, 0, none⟩ (.int .i64 ((rd_T50 l0 x13_1).f0))).setCell ⟨gb152, 1, none⟩ (.int .i64 ((rd_T50 l0 x13_1).f1))) = w19 at n0_ n1_ ⊢
                have BK152 := n0_
                have HB := n1_
                clear n0_ n1_
                replace BK152 := bd1 BK152
                replace HB := hb1 HB
                refine start_ (n := 5) (S := fun w' => w'.cell? ⟨gb152, 0, none⟩ = some (.int .i64 ((rd_T50 l0 x13_1).f0)) ∧ w'.cell? ⟨gb152, 1, none⟩ = some (.int .i64 ((rd_T50 l0 x13_1).f1))) (ds := []) #[false, false, false, false, false] (by kernel_rfl) rfl rfl ⟨(blk_cell BK152.out 0).trans rfl, (blk_cell BK152.out 1).trans rfl⟩ (fun hHeld => ?_)
                generalize w19.drew = w20 at BK152 HB hHeld ⊢
                refine pure_ (i := 0) (N := some 17) (v := ?_) (a' := ?_) #[true, false, false, false, false] rfl rfl (by kernel_rfl) (fun _ _ _ h => h) (Or.inl ⟨by rfl, ?_⟩) ?_ ?_
                rotate_left
                · intro w'
                  go_simp
                  with_reducible rfl
                rotate_left
                · simp only [Act.put, List.setIfInBounds_toArray, List.set_cons_zero, List.set_cons_succ, i64_w, i32_w]
                  rfl
                refine pure_ (i := 2) (N := some 19) (v := ?_) (a' := ?_) #[true, false, true, false, false] rfl rfl (by kernel_rfl) (fun _ _ _ h => h) (Or.inl ⟨by rfl, ?_⟩) ?_ ?_
                rotate_left
                · intro w'
                  go_simp
                  with_reducible rfl
                rotate_left
                · simp only [Act.put, List.setIfInBounds_toArray, List.set_cons_zero, List.set_cons_succ, i64_w, i32_w]
                  rfl
                refine take_ (i := 1) (N := some 18) (v := ?_) (a' := ?_) #[true, true, true, false, false] rfl rfl (by kernel_rfl) (fun _ _ _ h => h) (Or.inl ⟨by rfl, ?_⟩) hHeld ?_ ?_
                rotate_left
                · rintro w' ⟨s0, s1⟩
                  go_simp
                  with_reducible rfl
                rotate_left
                · simp only [Act.put, List.setIfInBounds_toArray, List.set_cons_zero, List.set_cons_succ, i64_w, i32_w]
                  rfl
                refine one_ (i := 3) (N := some 20) #[true, true, true, true, false] rfl rfl (by kernel_rfl) (by decide) (fun K hK => ?_)
                refine goes_ Try.func42 (by kernel_rfl) rfl #[.int .i64 a1] (by rfl) rfl rfl zm ?_
                with_reducible refine (tier_size.calls a1 t153 _ A9.out).mono ?_
                rintro e w21 ⟨rfl, hb⟩
                refine ⟨_, rfl, ?_⟩
                replace BK152 := bb BK152 hb
                replace HB := bs HB hb
                (try clear hb)
                (try clear hb2)
                (try clear hk)
                (try clear hi)
                refine hK.out _ _ ⟨(blk_cell BK152.out 0).trans rfl, (blk_cell BK152.out 1).trans rfl⟩ (fun hHeld => ?_)
                clear hK K
                refine norm_ (a' := ?_) ?_ ?_
                rotate_left
                · show Act.put _ (some 20) _ = _
                  simp only [Act.put, List.setIfInBounds_toArray, List.set_cons_zero, List.set_cons_succ, i64_w, i32_w]
                  rfl
                refine pure_ (i := 4) (N := some 21) (v := ?_) (a' := ?_) #[true, true, true, true, true] rfl rfl (by kernel_rfl) (fun _ _ _ h => h) (Or.inl ⟨by rfl, ?_⟩) ?_ ?_
                rotate_left
                · intro w'
                  go_simp
                  with_reducible rfl
                rotate_left
                · simp only [Act.put, List.setIfInBounds_toArray, List.set_cons_zero, List.set_cons_succ, i64_w, i32_w]
                  rfl
                refine done_ (by kernel_rfl) ?_
                try go_wp2
                go_roundg k1
                case measure => have := HK1.out; omega
                case rel => exact ⟨(x5_1), (wrap64 (x13_1 + 1)), (by first | rfl | (simp; done) | (simp [*]; done)), (by first | rfl | (simp; done) | (simp [*]; done)), H', ⟨by have := HK1.out; omega⟩, ⟨hq HB⟩⟩
            · rw [if_neg c8] at H
              exact absurd H (by simp)
          · rw [if_neg c7] at H
            exact absurd H (by simp)
        · rw [if_neg c6] at H
          have c6b0 : decide (x13_1 < (l0.length : Int)) = false := decide_eq_false c6
          clear c6
          obtain rfl := Option.some.inj H
          go_wp2
          go_ret
          exact ⟨by first | rfl | (simp [errW_none, errW_some] <;> rfl) | (simp [*, errW_none, errW_some] <;> rfl), hq HB⟩
  · rw [if_neg c4] at H
    have c4b0 : (t150 == 0) = false := beq_eq_false_iff_ne.mpr c4
    have c4b1 : (t150 != 0) = true := bne_iff_ne.mpr c4
    obtain rfl := Option.some.inj H
    go_enter Try.func19, Try.ntmps19
    go_wp2_with (first | ((with_reducible refine gate_callee (f := 16) rfl ?_); refine goesL_ (some 9) rfl rfl Try.func16 (by kernel_rfl) rfl #[.slice A0 l0.length c0] rfl zm ?_; (with_reducible refine (tier_Check.calls _ _ l0 t150 _ ?side1 ?side2 A3.out).mono ?_); (case side1 => repeat (first | exact HR0.out | (with_reducible refine Kd.C_alloc ?_ _) | (with_reducible refine Kd.C_drewN ?_ _) | (with_reducible refine Kd.C_drew ?_))); (case side2 => exact HC0.out); rintro e w22 ⟨rfl, hb⟩; refine ⟨_, rfl, ?_⟩; replace HB := bs HB hb; (try clear hb); (try clear hb2); (try clear hk); (try clear hi)))
    go_ret
    exact ⟨by first | rfl | (simp [errW_none, errW_some] <;> rfl) | (simp [*, errW_none, errW_some] <;> rfl), hq HB⟩

end Go.Proofs.Ytlmabdiodopidaa.P
end
section
set_option linter.unusedVariables false
set_option linter.unusedSimpArgs false
namespace Go.Proofs.Ytlmabdiodopidaa.P
open Go.Proofs.Ytlmabdiodopidaa.G
attribute [local go_sem high] un_not64 un_noti run_add64
open Go.RowKit Go.Proofs.YtlmabdiodopidaaW.PrintWords Go.Proofs.YtlmabdiodopidaaW.PrintLast Go.Proofs.YtlmabdiodopidaaW.PrintMore
attribute [local go_sem] max2_int min2_int max_two min_two max_three min_three max_four min_four   -- for this text's walks alone
set_option linter.unusedVariables false
set_option linter.unusedSimpArgs false

/-! ### tier_Slices: function 22 -/
mutual
def tier_Slices.j0 : Nat → List (S50) → Bool → Int → Int → Bool → Option ((List (S43)))
  | 0, _, _, _, _, _ => none
  | k + 1, x0, x1, x2, x7, x25 => if x25 = true then (some ([] : List (S43))) else (if x1 = true then (tier_Slices.l0 k x0 x7 ([] : List (S43)) x0 (x0.length : Int) 0) else ((tier_Rate.f k x0 x2).bind fun t158 => (some (([(⟨x7, t158⟩ : S43)] : List (S43))))))
def tier_Slices.l0 : Nat → List (S50) → Int → List (S43) → List (S50) → Int → Int → Option ((List (S43)))
  | 0, _, _, _, _, _, _ => none
  | k + 1, x0, x7, x8, x34, x35, x36 => if x36 < x35 then (if 0 ≤ x36 then (if x36 < (x34.length : Int) then (if (wrap64 (x36 + 1)) < (x0.length : Int) then (if 0 ≤ (wrap64 (x36 + 1)) then (if (mn x7 ((rd_T50 x0 (wrap64 (x36 + 1))).f0)) > ((rd_T50 x34 x36).f0) then (if x8.length < 8796093022208 then (tier_Slices.l0 k x0 x7 (x8 ++ [(⟨wrap64 ((mn x7 ((rd_T50 x0 (wrap64 (x36 + 1))).f0)) - ((rd_T50 x34 x36).f0)), (rd_T50 x34 x36).f1⟩ : S43)]) x34 x35 (wrap64 (x36 + 1))) else (none)) else (tier_Slices.l0 k x0 x7 x8 x34 x35 (wrap64 (x36 + 1)))) else (none)) else (if x7 > ((rd_T50 x34 x36).f0) then (if x8.length < 8796093022208 then (tier_Slices.l0 k x0 x7 (x8 ++ [(⟨wrap64 (x7 - ((rd_T50 x34 x36).f0)), (rd_T50 x34 x36).f1⟩ : S43)]) x34 x35 (wrap64 (x36 + 1))) else (none)) else (tier_Slices.l0 k x0 x7 x8 x34 x35 (wrap64 (x36 + 1))))) else (none)) else (none)) else (some x8)
end
def tier_Slices.f (k : Nat) (l0 : List (S50)) (a1 : Bool) (a2 : Int) : Option ((List (S43))) := (tier_size.f a2).bind fun t156 => (if (l0.length : Int) = 0 then (tier_Slices.j0 k l0 a1 a2 t156 true) else ((tier_Check.f l0).bind fun t157 => (if t157 = 0 then (tier_Slices.j0 k l0 a1 a2 t156 (t156 == 0)) else (tier_Slices.j0 k l0 a1 a2 t156 true))))
theorem tier_Slices.mono_l : ∀ k, (∀ y0 y1 y2 y3 y4, LeO (tier_Slices.j0 k y0 y1 y2 y3 y4) (tier_Slices.j0 (k + 1) y0 y1 y2 y3 y4)) ∧ (∀ y0 y1 y2 y3 y4 y5, LeO (tier_Slices.l0 k y0 y1 y2 y3 y4 y5) (tier_Slices.l0 (k + 1) y0 y1 y2 y3 y4 y5))
  | 0 => ⟨fun _ _ _ _ _ r h => by simp [tier_Slices.j0] at h, fun _ _ _ _ _ _ r h => by simp [tier_Slices.l0] at h⟩
  | k + 1 => by
    obtain ⟨ih0, ih1⟩ := tier_Slices.mono_l k
    refine ⟨?_, ?_⟩
    · intro y0 y1 y2 y3 y4
      unfold tier_Slices.j0
      repeat' first
      | (with_reducible exact ih0 _ _ _ _ _)
      | (with_reducible exact ih1 _ _ _ _ _ _)
      | (with_reducible exact tier_Rate.mono _ _ _)
      | (with_reducible exact LeO.refl _)
      | (with_reducible exact LeO.none _)
      | (with_reducible refine LeO.ite ?_ ?_)
      | (with_reducible refine LeO.bind ?_ (fun _ => ?_))
      | exact ih0 _ _ _ _ _
      | exact ih1 _ _ _ _ _ _
      | exact tier_Rate.mono _ _ _
      | exact LeO.none _
      | refine LeO.ite ?_ ?_
      | refine LeO.bind ?_ (fun _ => ?_)
    · intro y0 y1 y2 y3 y4 y5
      unfold tier_Slices.l0
      repeat' first
      | (with_reducible exact ih0 _ _ _ _ _)
      | (with_reducible exact ih1 _ _ _ _ _ _)
      | (with_reducible exact tier_Rate.mono _ _ _)
      | (with_reducible exact LeO.refl _)
      | (with_reducible exact LeO.none _)
      | (with_reducible refine LeO.ite ?_ ?_)
      | (with_reducible refine LeO.bind ?_ (fun _ => ?_))
      | exact ih0 _ _ _ _ _
      | exact ih1 _ _ _ _ _ _
      | exact tier_Rate.mono _ _ _
      | exact LeO.none _
      | refine LeO.ite ?_ ?_
      | refine LeO.bind ?_ (fun _ => ?_)
theorem tier_Slices.mono : ∀ a0 a1 a2 k, LeO (tier_Slices.f k a0 a1 a2) (tier_Slices.f (k + 1) a0 a1 a2) := by
  intro a0 a1 a2 k
  obtain ⟨ih0, ih1⟩ := tier_Slices.mono_l k
  unfold tier_Slices.f
  repeat' first
      | (with_reducible exact ih0 _ _ _ _ _)
      | (with_reducible exact ih1 _ _ _ _ _ _)
      | (with_reducible exact tier_Rate.mono _ _ _)
      | (with_reducible exact LeO.refl _)
      | (with_reducible exact LeO.none _)
      | (with_reducible refine LeO.ite ?_ ?_)
      | (with_reducible refine LeO.bind ?_ (fun _ => ?_))
      | exact ih0 _ _ _ _ _
      | exact ih1 _ _ _ _ _ _
      | exact tier_Rate.mono _ _ _
      | exact LeO.none _
      | refine LeO.ite ?_ ?_
      | refine LeO.bind ?_ (fun _ => ?_)
set_option maxHeartbeats 8000000 in
set_option maxRecDepth 100000 in
theorem tier_Slices.calls (k : Nat) (A0 : Option Addr) (c0 : Nat) (l0 : List (S50)) (a1 : Bool) (a2 : Int) (r : List (S43)) (w : World) (hr0 : Kd.C k50 w A0 l0.length l0) (hc0 : l0.length ≤ c0) (h : tier_Slices.f k l0 a1 a2 = some r) :
    Calls Try.prog 22 #[.slice A0 l0.length c0, .bool a1, .int .i64 a2] w fun e w' => ∃ v0_ : Value, e = .returned (v0_) ∧ Kd.R k43 43 w' w.heap.size (fun _ => True) v0_ r ∧ Below w.heap.size w w' := by
  have hu43 := Try.underlying43
  have hu50 := Try.underlying50
  have HR0 := Aside0.mk hr0
  have HC0 := Aside0.mk hc0
  clear hr0 hc0
  have HB := Aside0.mk (Below.refl w.heap.size w)
  have H : ((tier_size.f a2).bind fun t156 => (if (l0.length : Int) = 0 then (tier_Slices.j0 k l0 a1 a2 t156 true) else ((tier_Check.f l0).bind fun t157 => (if t157 = 0 then (tier_Slices.j0 k l0 a1 a2 t156 (t156 == 0)) else (tier_Slices.j0 k l0 a1 a2 t156 true))))) = some r := h
  clear h
  replace H := Option.bind_eq_some_iff.mp H
  obtain ⟨t156, A40, H⟩ := H
  replace H : (if (l0.length : Int) = 0 then (tier_Slices.j0 k l0 a1 a2 t156 true) else ((tier_Check.f l0).bind fun t157 => (if t157 = 0 then (tier_Slices.j0 k l0 a1 a2 t156 (t156 == 0)) else (tier_Slices.j0 k l0 a1 a2 t156 true)))) = some r := H
  have A4 := Aside0.mk A40
  clear A40
  have HC5 := Aside0.mk H
  clear H
  go_enter Try.func22, Try.ntmps22
  go_upto_region 2 with (first | ((with_reducible refine gate_callee (f := 42) rfl ?_); refine goesL_ (some 13) rfl rfl Try.func42 (by kernel_rfl) rfl #[.int .i64 a2] rfl zm ?_; (with_reducible refine (tier_size.calls a2 t156 _ A4.out).mono ?_); rintro e w6 ⟨rfl, hb⟩; refine ⟨_, rfl, ?_⟩; replace HB := bs HB hb; (try clear hb); (try clear hb2); (try clear hk); (try clear hi)))
  (try simp only [Act.put, List.setIfInBounds_toArray, List.set_cons_zero, List.set_cons_succ])
  go_cut [25] (fun v25 wc => ∃ (kq : Nat) (x25_4 : Bool), v25 = .bool x25_4 ∧ Aside0 (tier_Slices.j0 kq l0 a1 a2 t156 x25_4 = some r) ∧ Aside0 (kq ≤ k) ∧ Aside0 (Below w.heap.size w wc))
  case first =>
    have H := HC5.out
    clear HC5
    by_cases c7 : (l0.length : Int) = 0
    · rw [if_pos c7] at H
      have c7b0 : ((l0.length : Int) == 0) = true := beq_iff_eq.mpr c7
      have c7b1 : ((l0.length : Int) != 0) = false := bne_eq_false_iff_eq.mpr c7
      clear c7
      (first | rw [c7b0] | (simp only [i64_w, i32_w]; rw [c7b0]) | skip)
      have H' := Aside0.mk H
      clear H
      go_wp2
      go_meet
      case rel => exact ⟨_, (true), (by first | rfl | (simp; done) | (simp [*]; done)), H', ⟨by first | omega | exact Nat.le_refl _⟩, ⟨hq HB⟩⟩
    · rw [if_neg c7] at H
      have c7b0 : ((l0.length : Int) == 0) = false := beq_eq_false_iff_ne.mpr c7
      have c7b1 : ((l0.length : Int) != 0) = true := bne_iff_ne.mpr c7
      have c7b2 : ¬ (l0 = []) := fun h_ => c7 (by rw [h_]; rfl)
      (first | rw [c7b0] | (simp only [i64_w, i32_w]; rw [c7b0]) | skip)
      replace H := Option.bind_eq_some_iff.mp H
      obtain ⟨t157, A80, H⟩ := H
      replace H : (if t157 = 0 then (tier_Slices.j0 k l0 a1 a2 t156 (t156 == 0)) else (tier_Slices.j0 k l0 a1 a2 t156 true)) = some r := H
      have A8 := Aside0.mk A80
      clear A80
      by_cases c9 : t157 = 0
      · rw [if_pos c9] at H
        have c9b0 : (t157 == 0) = true := beq_iff_eq.mpr c9
        have c9b1 : (t157 != 0) = false := bne_eq_false_iff_eq.mpr c9
        clear c9
        have H' := Aside0.mk H
        clear H
        go_wp2_with (first | (go_at_call 16; (with_reducible refine (tier_Check.calls _ _ l0 t157 _ ?side1 ?side2 A8.out).mono ?_); (case side1 => repeat (first | exact (Kd.C_below HR0.out HB.out) | (with_reducible refine Kd.C_alloc ?_ _) | (with_reducible refine Kd.C_drewN ?_ _) | (with_reducible refine Kd.C_drew ?_))); (case side2 => exact HC0.out); rintro e w10 ⟨rfl, hb⟩; replace HB := bs HB hb; (try clear hb); (try clear hb2); (try clear hk); (try clear hi)))
        go_meet
        case rel => exact ⟨_, ((t156 == 0)), (by first | rfl | (simp; done) | (simp [*]; done)), H', ⟨by first | omega | exact Nat.le_refl _⟩, ⟨hq HB⟩⟩
      · rw [if_neg c9] at H
        have c9b0 : (t157 == 0) = false := beq_eq_false_iff_ne.mpr c9
        have c9b1 : (t157 != 0) = true := bne_iff_ne.mpr c9
        have H' := Aside0.mk H
        clear H
        go_wp2_with (first | (go_at_call 16; (with_reducible refine (tier_Check.calls _ _ l0 t157 _ ?side1 ?side2 A8.out).mono ?_); (case side1 => repeat (first | exact (Kd.C_below HR0.out HB.out) | (with_reducible refine Kd.C_alloc ?_ _) | (with_reducible refine Kd.C_drewN ?_ _) | (with_reducible refine Kd.C_drew ?_))); (case side2 => exact HC0.out); rintro e w11 ⟨rfl, hb⟩; replace HB := bs HB hb; (try clear hb); (try clear hb2); (try clear hk); (try clear hi)))
        go_meet
        case rel => exact ⟨_, (true), (by first | rfl | (simp; done) | (simp [*]; done)), H', ⟨by first | omega | exact Nat.le_refl _⟩, ⟨hq HB⟩⟩
  case rest =>
    clear HC5
    try clear c2
    try clear p2
    try clear c4
    try clear c7
    try clear c7b0
    try clear c7b1
    try clear c7b2
    try clear c9
    try clear c9b0
    try clear c9b1
    obtain ⟨kq, x25_4, rfl, HA, HJ4, HB⟩ := hcut
    cases kq with
    | zero => exact absurd HA.out (by simp [tier_Slices.j0])
    | succ kj4 =>
      have H := HA.out
      clear HA
      simp only [tier_Slices.j0] at H
      by_cases c12 : x25_4 = true
      · subst c12
        have H1 : (some ([] : List (S43))) = some r := by rw [if_pos rfl] at H; exact H
        clear H
        have H := H1
        clear H1
        obtain rfl := Option.some.inj H
        go_wp2
        go_ret
        exact ⟨_, by first | rfl | (simp [errW_none, errW_some] <;> rfl) | (simp [*, errW_none, errW_some] <;> rfl), by first | exact Kd.R_nil _ _ _ _ _ | exact Kd.N_nil _ _ _ _ _ | exact Kd.V_nil _ _ _ _ _ | exact Kd.Q_nil _ _ _ _ _ | exact Kd.S_nil _ _ _ _ _, hq HB⟩
      · replace c12 := Bool.eq_false_iff.mpr c12
        subst c12
        have H1 : (if a1 = true then (tier_Slices.l0 kj4 l0 t156 ([] : List (S43)) l0 (l0.length : Int) 0) else ((tier_Rate.f kj4 l0 a2).bind fun t158 => (some (([(⟨t156, t158⟩ : S43)] : List (S43)))))) = some r := by rw [if_neg (show ¬ (false = true) by decide)] at H; exact H
        clear H
        have H := H1
        clear H1
        by_cases c13 : a1 = true
        · subst c13
          have H1 : (tier_Slices.l0 kj4 l0 t156 ([] : List (S43)) l0 (l0.length : Int) 0) = some r := by rw [if_pos rfl] at H; exact H
          clear H
          have H := H1
          clear H1
          have H' := Aside0.mk H
          clear H
          go_wp2
          go_loopg [8, 36] kj4 (fun kq v8 v36 w' => ∃ (x8_2 : List (S43)) (x36_2 : Int), v36 = .int .i64 x36_2 ∧ Aside0 (tier_Slices.l0 kq l0 t156 x8_2 l0 (l0.length : Int) x36_2 = some r) ∧ Aside0 (kq ≤ kj4) ∧ Aside0 (Kd.R k43 43 w' w.heap.size (fun _ => True) v8 x8_2) ∧ Aside0 (Below w.heap.size w w'))
          case atStart => exact ⟨(([] : List (S43))), (0), (by first | rfl | (simp; done) | (simp [*]; done)), H', ⟨Nat.le_refl _⟩, ⟨by first | exact Kd.R_nil _ _ _ _ _ | exact Kd.N_nil _ _ _ _ _ | exact Kd.V_nil _ _ _ _ _ | exact Kd.Q_nil _ _ _ _ _ | exact Kd.S_nil _ _ _ _ _⟩, ⟨hq HB⟩⟩
          case round =>
            clear H'
            try clear c1
            try clear c2
            try clear p2
            try clear c4
            try clear c7
            try clear c7b0
            try clear c7b1
            try clear c7b2
            try clear c9
            try clear c9b0
            try clear c9b1
            try clear c12
            try clear c13
            try clear p2
            obtain ⟨x8_2, x36_2, rfl, HA, HK2, HO_8, HB⟩ := hrel
            cases gk with
            | zero => exact absurd HA.out (by simp [tier_Slices.l0])
            | succ k2 =>
              have H := HA.out
              clear HA
              simp only [tier_Slices.l0] at H
              by_cases c14 : x36_2 < (l0.length : Int)
              · rw [if_pos c14] at H
                have c14b0 : decide (x36_2 < (l0.length : Int)) = true := decide_eq_true c14
                clear c14
                by_cases c15 : 0 ≤ x36_2
                · rw [if_pos c15] at H
                  have c15b0 : decide (0 ≤ x36_2) = true := decide_eq_true c15
                  clear c15
                  by_cases c16 : x36_2 < (l0.length : Int)
                  · rw [if_pos c16] at H
                    have c16b0 : decide (x36_2 < (l0.length : Int)) = true := decide_eq_true c16
                    clear c16
                    by_cases c17 : (wrap64 (x36_2 + 1)) < (l0.length : Int)
                    · rw [if_pos c17] at H
                      have c17b0 : decide ((wrap64 (x36_2 + 1)) < (l0.length : Int)) = true := decide_eq_true c17
                      clear c17
                      obtain ⟨ji18, hji18⟩ : ∃ j_ : Int, (wrap64 (x36_2 + 1)) = j_ := ⟨_, rfl⟩
                      replace H : (if 0 ≤ (ji18) then (if (mn t156 ((rd_T50 l0 (ji18)).f0)) > ((rd_T50 l0 x36_2).f0) then (if x8_2.length < 8796093022208 then (tier_Slices.l0 k2 l0 t156 (x8_2 ++ [(⟨wrap64 ((mn t156 ((rd_T50 l0 (ji18)).f0)) - ((rd_T50 l0 x36_2).f0)), (rd_T50 l0 x36_2).f1⟩ : S43)]) l0 (l0.length : Int) ji18) else (none)) else (tier_Slices.l0 k2 l0 t156 x8_2 l0 (l0.length : Int) ji18)) else (none)) = some r := by first | (rw [hji18] at H; exact H) | (simp only [hji18] at H ⊢; exact H)
                      (try rw [hji18] at c17b0)
                      have hji18w : (IntKind.i64.wrap (x36_2 + 1)) = ji18 := (i64_w _).trans hji18
                      by_cases c19 : 0 ≤ (ji18)
                      · rw [if_pos c19] at H
                        have c19b0 : decide (0 ≤ (ji18)) = true := decide_eq_true c19
                        clear c19
                        obtain ⟨ji20, hji20⟩ : ∃ j_ : Int, (mn t156 ((rd_T50 l0 (ji18)).f0)) = j_ := ⟨_, rfl⟩
                        replace H : (if (ji20) > ((rd_T50 l0 x36_2).f0) then (if x8_2.length < 8796093022208 then (tier_Slices.l0 k2 l0 t156 (x8_2 ++ [(⟨wrap64 ((ji20) - ((rd_T50 l0 x36_2).f0)), (rd_T50 l0 x36_2).f1⟩ : S43)]) l0 (l0.length : Int) ji18) else (none)) else (tier_Slices.l0 k2 l0 t156 x8_2 l0 (l0.length : Int) ji18)) = some r := by first | (rw [hji20] at H; exact H) | (simp only [hji20] at H ⊢; exact H)
                        have hji20_ : (if ((rd_T50 l0 (ji18)).f0) < t156 then ((rd_T50 l0 (ji18)).f0) else t156) = ji20 := hji20
                        by_cases c21 : (ji20) > ((rd_T50 l0 x36_2).f0)
                        · rw [if_pos c21] at H
                          have c21b0 : decide (((rd_T50 l0 x36_2).f0) < (ji20)) = true := decide_eq_true c21
                          clear c21
                          by_cases c22 : x8_2.length < 8796093022208
                          · rw [if_pos c22] at H
                            have LMc22 := Aside0.mk c22
                            clear c22
                            obtain ⟨y165, hy165⟩ : ∃ y_ : List (S43), y_ = (x8_2 ++ [(⟨wrap64 ((ji20) - ((rd_T50 l0 x36_2).f0)), (rd_T50 l0 x36_2).f1⟩ : S43)]) := ⟨_, rfl⟩
                            replace H : (tier_Slices.l0 k2 l0 t156 y165 l0 (l0.length : Int) ji18) = some r := by first | (rw [hy165]; with_reducible exact H) | (have H2_ := (Option.bind_some _ _).symm.trans H; rw [hy165]; with_reducible exact H2_) | (have H2_ := (Option.bind_some _ _).symm.trans H; with_reducible exact H2_) | with_reducible exact H | (rw [hy165]; exact H) | exact H
                            have Ny165 := Aside0.mk hy165
                            clear hy165
                            have H' := Aside0.mk H
                            clear H
                            have p162 : 0 ≤ (x36_2 : Int) := of_decide_eq_true (by first | (with_reducible assumption) | assumption)
                            have q162 : x36_2 < (l0.length : Int) := of_decide_eq_true (by first | (with_reducible assumption) | assumption)
                            obtain ⟨ad162, e162, hx162_0, hx162_1⟩ := at_T50 HR0.out x36_2 p162 q162
                            cases e162
                            replace hx162_0 := (HB.out.cell (World.block_lt_of_cell? w _ hx162_0)).trans hx162_0
                            replace hx162_1 := (HB.out.cell (World.block_lt_of_cell? w _ hx162_1)).trans hx162_1
                            replace p162 := eq_true p162
                            replace q162 := eq_true q162
                            go_wp2_with (first | ((with_reducible refine gate_dst (N := 10) rfl ?_); refine box_event ?hg (N := 10) ?hd (cs := #[.int .i64 0, .int .i64 0]) (t := 50) ?hr ?_; (case hd => rfl); (case hg => rfl); (case hr => first | (go_simp; done) | (go_simp; rfl)); intro gb163 hg w23 hbox hb; have BK163 := Aside0.mk (hbox); have GW163 := ge HB hg; have GE163 := ge HB hg; replace HO_8 := kb HO_8 hb; replace HB := bs HB hb; clear hb hbox hg; obtain ⟨hcz24_0, hcz24_1, hfz24_0, hfz24_1⟩ := cz2 BK163; have p164 : 0 ≤ ((ji18) : Int) := of_decide_eq_true (by first | (with_reducible assumption) | assumption); have q164 : (ji18) < (l0.length : Int) := of_decide_eq_true (by first | (with_reducible assumption) | assumption); obtain ⟨ad164, e164, hx164_0, hx164_1⟩ := at_T50 HR0.out (ji18) p164 q164; obtain rfl : ad162 = ad164 := (by injection e164); have hn164_0 : ad162.block ≠ gb163 := Nat.ne_of_lt (Nat.lt_of_lt_of_le (by have := World.block_lt_of_cell? _ _ hx164_0; first | rwa [add_block] at this | exact this) GW163.out); have hn164_1 : ad162.block ≠ gb163 := Nat.ne_of_lt (Nat.lt_of_lt_of_le (by have := World.block_lt_of_cell? _ _ hx164_0; first | rwa [add_block] at this | exact this) GW163.out); replace hx164_0 := (HB.out.cell (World.block_lt_of_cell? w _ hx164_0)).trans hx164_0; replace hx164_1 := (HB.out.cell (World.block_lt_of_cell? w _ hx164_1)).trans hx164_1; replace hx164_0 := (cell_far (p := ⟨gb163, 0, none⟩) (by first | (rw [add_block]; exact hn164_0) | (show (Addr.add _ _).block ≠ _; rw [add_block]; exact hn164_0) | exact hn164_0) (.int .i64 ((rd_T50 l0 x36_2).f0))).trans hx164_0; replace hx164_1 := (cell_far (p := ⟨gb163, 0, none⟩) (by first | (rw [add_block]; exact hn164_0) | (show (Addr.add _ _).block ≠ _; rw [add_block]; exact hn164_0) | exact hn164_0) (.int .i64 ((rd_T50 l0 x36_2).f0))).trans hx164_1; replace hx164_0 := (cell_far (p := ⟨gb163, 1, none⟩) (by first | (rw [add_block]; exact hn164_1) | (show (Addr.add _ _).block ≠ _; rw [add_block]; exact hn164_1) | exact hn164_1) (.int .i64 ((rd_T50 l0 x36_2).f1))).trans hx164_0; replace hx164_1 := (cell_far (p := ⟨gb163, 1, none⟩) (by first | (rw [add_block]; exact hn164_1) | (show (Addr.add _ _).block ≠ _; rw [add_block]; exact hn164_1) | exact hn164_1) (.int .i64 ((rd_T50 l0 x36_2).f1))).trans hx164_1; clear hn164_0; clear hn164_1; replace p164 := eq_true p164; replace q164 := eq_true q164) | ((with_reducible refine gate_builtin (b := .append) (xs := #[.tmp 59, .tmp 67]) rfl ?_); at_builtin; refine Kd.R_append k43 (w0 := w) w.heap.size rfl (.tmp 59) (.tmp 67) 30 43 (.agg #[(.int .i64 0), (.int .i64 0)]) 16 rfl Try.underlying30 info43 rfl (by decide) (by omega) u8 x8_2 (⟨wrap64 ((ji20) - ((rd_T50 l0 x36_2).f0)), (rd_T50 l0 x36_2).f1⟩ : S43) [.int .i64 (wrap64 ((ji20) - ((rd_T50 l0 x36_2).f0))), .int .i64 ((rd_T50 l0 x36_2).f1)] (fun _ => True) (fun _ => False) rfl (by first | (go_simp; done) | (go_simp; rfl)) ?aP (fun _ hk => hk.elim) ?aF ?aO ?aB ?aS ?aL ?_; (case aP => exact k43_mkM _ _ _ (⟨wrap64 ((ji20) - ((rd_T50 l0 x36_2).f0)), (rd_T50 l0 x36_2).f1⟩ : S43)); (case aB => exact (hq HB)); (case aF => exact (fun _ _ => trivial)); (case aO => exact (by (with_reducible repeat (first | apply Kd.R_alloc | apply Kd.R_drewN | apply Kd.R_drew)); exact Kd.R_mono (Kd.R_far (p := ⟨gb163, 1, none⟩) (Kd.R_far (p := ⟨gb163, 0, none⟩) (Kd.R_types HO_8.out BK163.out (by decide)) (fun _ hk => hk.2) (.int .i64 ((rd_T50 l0 x36_2).f0))) (fun _ hk => hk.2) (.int .i64 ((rd_T50 l0 x36_2).f1))) (fun _ hk => trivial))); (case aS => exact (below_size (hq HB))); (case aL => have := LMc22.out; omega); intro v166 w25 ho hb hg hat; rw [← Ny165.out] at ho; have HO167 := Aside0.mk (ho); replace BK163 := Aside0.mk (blk_grown (g := gb163) (o := .cells #[.int .i64 ((rd_T50 l0 x36_2).f0), .int .i64 ((rd_T50 l0 x36_2).f1)] 50 (0, 0)) (bp BK163) hg (Kd.R_ne HO_8.out BK163.out (by decide))); replace HB := Aside0.mk (hb); clear HO_8; clear ho hb hg hat))
                            go_roundg k2
                            case measure => have := HJ4.out; have := HK2.out; omega
                            case rel => exact ⟨(y165), (ji18), (by first | rfl | (simp; done) | (simp only [← hji18] <;> (first | rfl | simp)) | (simp [*]; done)), H', ⟨by have := HJ4.out; have := HK2.out; omega⟩, ⟨by (with_reducible repeat (first | apply Kd.R_alloc | apply Kd.R_drewN | apply Kd.R_drew)); exact HO167.out⟩, ⟨hq HB⟩⟩
                          · rw [if_neg c22] at H
                            exact absurd H (by simp)
                        · rw [if_neg c21] at H
                          have c21b0 : decide (((rd_T50 l0 x36_2).f0) < (ji20)) = false := decide_eq_false c21
                          clear c21
                          have H' := Aside0.mk H
                          clear H
                          have p162 : 0 ≤ (x36_2 : Int) := of_decide_eq_true (by first | (with_reducible assumption) | assumption)
                          have q162 : x36_2 < (l0.length : Int) := of_decide_eq_true (by first | (with_reducible assumption) | assumption)
                          obtain ⟨ad162, e162, hx162_0, hx162_1⟩ := at_T50 HR0.out x36_2 p162 q162
                          cases e162
                          replace hx162_0 := (HB.out.cell (World.block_lt_of_cell? w _ hx162_0)).trans hx162_0
                          replace hx162_1 := (HB.out.cell (World.block_lt_of_cell? w _ hx162_1)).trans hx162_1
                          replace p162 := eq_true p162
                          replace q162 := eq_true q162
                          go_wp2_with (first | ((with_reducible refine gate_dst (N := 10) rfl ?_); refine box_event ?hg (N := 10) ?hd (cs := #[.int .i64 0, .int .i64 0]) (t := 50) ?hr ?_; (case hd => rfl); (case hg => rfl); (case hr => first | (go_simp; done) | (go_simp; rfl)); intro gb163 hg w26 hbox hb; have BK163 := Aside0.mk (hbox); have GW163 := ge HB hg; have GE163 := ge HB hg; replace HO_8 := kb HO_8 hb; replace HB := bs HB hb; clear hb hbox hg; obtain ⟨hcz27_0, hcz27_1, hfz27_0, hfz27_1⟩ := cz2 BK163; have p164 : 0 ≤ ((ji18) : Int) := of_decide_eq_true (by first | (with_reducible assumption) | assumption); have q164 : (ji18) < (l0.length : Int) := of_decide_eq_true (by first | (with_reducible assumption) | assumption); obtain ⟨ad164, e164, hx164_0, hx164_1⟩ := at_T50 HR0.out (ji18) p164 q164; obtain rfl : ad162 = ad164 := (by injection e164); have hn164_0 : ad162.block ≠ gb163 := Nat.ne_of_lt (Nat.lt_of_lt_of_le (by have := World.block_lt_of_cell? _ _ hx164_0; first | rwa [add_block] at this | exact this) GW163.out); have hn164_1 : ad162.block ≠ gb163 := Nat.ne_of_lt (Nat.lt_of_lt_of_le (by have := World.block_lt_of_cell? _ _ hx164_0; first | rwa [add_block] at this | exact this) GW163.out); replace hx164_0 := (HB.out.cell (World.block_lt_of_cell? w _ hx164_0)).trans hx164_0; replace hx164_1 := (HB.out.cell (World.block_lt_of_cell? w _ hx164_1)).trans hx164_1; replace hx164_0 := (cell_far (p := ⟨gb163, 0, none⟩) (by first | (rw [add_block]; exact hn164_0) | (show (Addr.add _ _).block ≠ _; rw [add_block]; exact hn164_0) | exact hn164_0) (.int .i64 ((rd_T50 l0 x36_2).f0))).trans hx164_0; replace hx164_1 := (cell_far (p := ⟨gb163, 0, none⟩) (by first | (rw [add_block]; exact hn164_0) | (show (Addr.add _ _).block ≠ _; rw [add_block]; exact hn164_0) | exact hn164_0) (.int .i64 ((rd_T50 l0 x36_2).f0))).trans hx164_1; replace hx164_0 := (cell_far (p := ⟨gb163, 1, none⟩) (by first | (rw [add_block]; exact hn164_1) | (show (Addr.add _ _).block ≠ _; rw [add_block]; exact hn164_1) | exact hn164_1) (.int .i64 ((rd_T50 l0 x36_2).f1))).trans hx164_0; replace hx164_1 := (cell_far (p := ⟨gb163, 1, none⟩) (by first | (rw [add_block]; exact hn164_1) | (show (Addr.add _ _).block ≠ _; rw [add_block]; exact hn164_1) | exact hn164_1) (.int .i64 ((rd_T50 l0 x36_2).f1))).trans hx164_1; clear hn164_0; clear hn164_1; replace p164 := eq_true p164; replace q164 := eq_true q164))
                          go_roundg k2
                          case measure => have := HJ4.out; have := HK2.out; omega
                          case rel => exact ⟨(x8_2), (ji18), (by first | rfl | (simp; done) | (simp only [← hji18] <;> (first | rfl | simp)) | (simp [*]; done)), H', ⟨by have := HJ4.out; have := HK2.out; omega⟩, ⟨by (with_reducible repeat (first | apply Kd.R_alloc | apply Kd.R_drewN | apply Kd.R_drew)); exact Kd.R_mono (Kd.R_far (p := ⟨gb163, 1, none⟩) (Kd.R_far (p := ⟨gb163, 0, none⟩) (Kd.R_types HO_8.out BK163.out (by decide)) (fun _ hk => hk.2) (.int .i64 ((rd_T50 l0 x36_2).f0))) (fun _ hk => hk.2) (.int .i64 ((rd_T50 l0 x36_2).f1))) (fun _ hk => trivial)⟩, ⟨hq HB⟩⟩
                      · rw [if_neg c19] at H
                        exact absurd H (by simp)
                    · rw [if_neg c17] at H
                      have c17b0 : decide ((wrap64 (x36_2 + 1)) < (l0.length : Int)) = false := decide_eq_false c17
                      clear c17
                      by_cases c28 : t156 > ((rd_T50 l0 x36_2).f0)
                      · rw [if_pos c28] at H
                        have c28b0 : decide (((rd_T50 l0 x36_2).f0) < t156) = true := decide_eq_true c28
                        clear c28
                        by_cases c29 : x8_2.length < 8796093022208
                        · rw [if_pos c29] at H
                          have LMc29 := Aside0.mk c29
                          clear c29
                          obtain ⟨y168, hy168⟩ : ∃ y_ : List (S43), y_ = (x8_2 ++ [(⟨wrap64 (t156 - ((rd_T50 l0 x36_2).f0)), (rd_T50 l0 x36_2).f1⟩ : S43)]) := ⟨_, rfl⟩
                          replace H : (tier_Slices.l0 k2 l0 t156 y168 l0 (l0.length : Int) (wrap64 (x36_2 + 1))) = some r := by first | (rw [hy168]; with_reducible exact H) | (have H2_ := (Option.bind_some _ _).symm.trans H; rw [hy168]; with_reducible exact H2_) | (have H2_ := (Option.bind_some _ _).symm.trans H; with_reducible exact H2_) | with_reducible exact H | (rw [hy168]; exact H) | exact H
                          have Ny168 := Aside0.mk hy168
                          clear hy168
                          have H' := Aside0.mk H
                          clear H
                          have p162 : 0 ≤ (x36_2 : Int) := of_decide_eq_true (by first | (with_reducible assumption) | assumption)
                          have q162 : x36_2 < (l0.length : Int) := of_decide_eq_true (by first | (with_reducible assumption) | assumption)
                          obtain ⟨ad162, e162, hx162_0, hx162_1⟩ := at_T50 HR0.out x36_2 p162 q162
                          cases e162
                          replace hx162_0 := (HB.out.cell (World.block_lt_of_cell? w _ hx162_0)).trans hx162_0
                          replace hx162_1 := (HB.out.cell (World.block_lt_of_cell? w _ hx162_1)).trans hx162_1
                          replace p162 := eq_true p162
                          replace q162 := eq_true q162
                          go_wp2_with (first | ((with_reducible refine gate_dst (N := 10) rfl ?_); refine box_event ?hg (N := 10) ?hd (cs := #[.int .i64 0, .int .i64 0]) (t := 50) ?hr ?_; (case hd => rfl); (case hg => rfl); (case hr => first | (go_simp; done) | (go_simp; rfl)); intro gb163 hg w30 hbox hb; have BK163 := Aside0.mk (hbox); have GW163 := ge HB hg; have GE163 := ge HB hg; replace HO_8 := kb HO_8 hb; replace HB := bs HB hb; clear hb hbox hg; obtain ⟨hcz31_0, hcz31_1, hfz31_0, hfz31_1⟩ := cz2 BK163) | ((with_reducible refine gate_builtin (b := .append) (xs := #[.tmp 59, .tmp 67]) rfl ?_); at_builtin; refine Kd.R_append k43 (w0 := w) w.heap.size rfl (.tmp 59) (.tmp 67) 30 43 (.agg #[(.int .i64 0), (.int .i64 0)]) 16 rfl Try.underlying30 info43 rfl (by decide) (by omega) u8 x8_2 (⟨wrap64 (t156 - ((rd_T50 l0 x36_2).f0)), (rd_T50 l0 x36_2).f1⟩ : S43) [.int .i64 (wrap64 (t156 - ((rd_T50 l0 x36_2).f0))), .int .i64 ((rd_T50 l0 x36_2).f1)] (fun _ => True) (fun _ => False) rfl (by first | (go_simp; done) | (go_simp; rfl)) ?aP (fun _ hk => hk.elim) ?aF ?aO ?aB ?aS ?aL ?_; (case aP => exact k43_mkM _ _ _ (⟨wrap64 (t156 - ((rd_T50 l0 x36_2).f0)), (rd_T50 l0 x36_2).f1⟩ : S43)); (case aB => exact (hq HB)); (case aF => exact (fun _ _ => trivial)); (case aO => exact (by (with_reducible repeat (first | apply Kd.R_alloc | apply Kd.R_drewN | apply Kd.R_drew)); exact Kd.R_mono (Kd.R_far (p := ⟨gb163, 1, none⟩) (Kd.R_far (p := ⟨gb163, 0, none⟩) (Kd.R_types HO_8.out BK163.out (by decide)) (fun _ hk => hk.2) (.int .i64 ((rd_T50 l0 x36_2).f0))) (fun _ hk => hk.2) (.int .i64 ((rd_T50 l0 x36_2).f1))) (fun _ hk => trivial))); (case aS => exact (below_size (hq HB))); (case aL => have := LMc29.out; omega); intro v169 w32 ho hb hg hat; rw [← Ny168.out] at ho; have HO170 := Aside0.mk (ho); replace BK163 := Aside0.mk (blk_grown (g := gb163) (o := .cells #[.int .i64 ((rd_T50 l0 x36_2).f0), .int .i64 ((rd_T50 l0 x36_2).f1)] 50 (0, 0)) (bp BK163) hg (Kd.R_ne HO_8.out BK163.out (by decide))); replace HB := Aside0.mk (hb); clear HO_8; clear ho hb hg hat))
                          go_roundg k2
                          case measure => have := HJ4.out; have := HK2.out; omega
                          case rel => exact ⟨(y168), (wrap64 (x36_2 + 1)), (by first | rfl | (simp; done) | (simp [*]; done)), H', ⟨by have := HJ4.out; have := HK2.out; omega⟩, ⟨by (with_reducible repeat (first | apply Kd.R_alloc | apply Kd.R_drewN | apply Kd.R_drew)); exact HO170.out⟩, ⟨hq HB⟩⟩
                        · rw [if_neg c29] at H
                          exact absurd H (by simp)
                      · rw [if_neg c28] at H
                        have c28b0 : decide (((rd_T50 l0 x36_2).f0) < t156) = false := decide_eq_false c28
                        clear c28
                        have H' := Aside0.mk H
                        clear H
                        have p162 : 0 ≤ (x36_2 : Int) := of_decide_eq_true (by first | (with_reducible assumption) | assumption)
                        have q162 : x36_2 < (l0.length : Int) := of_decide_eq_true (by first | (with_reducible assumption) | assumption)
                        obtain ⟨ad162, e162, hx162_0, hx162_1⟩ := at_T50 HR0.out x36_2 p162 q162
                        cases e162
                        replace hx162_0 := (HB.out.cell (World.block_lt_of_cell? w _ hx162_0)).trans hx162_0
                        replace hx162_1 := (HB.out.cell (World.block_lt_of_cell? w _ hx162_1)).trans hx162_1
                        replace p162 := eq_true p162
                        replace q162 := eq_true q162
                        go_wp2_with (first | ((with_reducible refine gate_dst (N := 10) rfl ?_); refine box_event ?hg (N := 10) ?hd (cs := #[.int .i64 0, .int .i64 0]) (t := 50) ?hr ?_; (case hd => rfl); (case hg => rfl); (case hr => first | (go_simp; done) | (go_simp; rfl)); intro gb163 hg w33 hbox hb; have BK163 := Aside0.mk (hbox); have GW163 := ge HB hg; have GE163 := ge HB hg; replace HO_8 := kb HO_8 hb; replace HB := bs HB hb; clear hb hbox hg; obtain ⟨hcz34_0, hcz34_1, hfz34_0, hfz34_1⟩ := cz2 BK163))
                        go_roundg k2
                        case measure => have := HJ4.out; have := HK2.out; omega
                        case rel => exact ⟨(x8_2), (wrap64 (x36_2 + 1)), (by first | rfl | (simp; done) | (simp [*]; done)), H', ⟨by have := HJ4.out; have := HK2.out; omega⟩, ⟨by (with_reducible repeat (first | apply Kd.R_alloc | apply Kd.R_drewN | apply Kd.R_drew)); exact Kd.R_mono (Kd.R_far (p := ⟨gb163, 1, none⟩) (Kd.R_far (p := ⟨gb163, 0, none⟩) (Kd.R_types HO_8.out BK163.out (by decide)) (fun _ hk => hk.2) (.int .i64 ((rd_T50 l0 x36_2).f0))) (fun _ hk => hk.2) (.int .i64 ((rd_T50 l0 x36_2).f1))) (fun _ hk => trivial)⟩, ⟨hq HB⟩⟩
                  · rw [if_neg c16] at H
                    exact absurd H (by simp)
                · rw [if_neg c15] at H
                  exact absurd H (by simp)
              · rw [if_neg c14] at H
                have c14b0 : decide (x36_2 < (l0.length : Int)) = false := decide_eq_false c14
                clear c14
                obtain rfl := Option.some.inj H
                go_wp2
                go_ret
                exact ⟨_, by first | rfl | (simp [errW_none, errW_some] <;> rfl) | (simp [*, errW_none, errW_some] <;> rfl), by (with_reducible repeat (first | apply Kd.R_alloc | apply Kd.R_drewN | apply Kd.R_drew)); exact HO_8.out, hq HB⟩
        · replace c13 := Bool.eq_false_iff.mpr c13
          subst c13
          have H1 : ((tier_Rate.f kj4 l0 a2).bind fun t158 => (some (([(⟨t156, t158⟩ : S43)] : List (S43))))) = some r := by rw [if_neg (show ¬ (false = true) by decide)] at H; exact H
          clear H
          have H := H1
          clear H1
          replace H := Option.bind_eq_some_iff.mp H
          obtain ⟨t158, A350, H⟩ := H
          replace H : (some (([(⟨t156, t158⟩ : S43)] : List (S43)))) = some r := H
          have A35 := Aside0.mk A350
          clear A350
          obtain ⟨y159, hy159⟩ : ∃ y_ : List (S43), y_ = (([(⟨t156, t158⟩ : S43)] : List (S43))) := ⟨_, rfl⟩
          replace H : (some y159) = some r := by first | (rw [hy159]; with_reducible exact H) | (have H2_ := (Option.bind_some _ _).symm.trans H; rw [hy159]; with_reducible exact H2_) | (have H2_ := (Option.bind_some _ _).symm.trans H; with_reducible exact H2_) | with_reducible exact H | (rw [hy159]; exact H) | exact H
          have Ny159 := Aside0.mk hy159
          clear hy159
          obtain rfl := Option.some.inj H
          go_wp2_with (first | ((with_reducible refine gate_callee (f := 19) rfl ?_); refine goesL_ (some 31) rfl rfl Try.func19 (by kernel_rfl) rfl #[.slice A0 l0.length c0, .int .i64 a2] rfl zm ?_; (with_reducible refine (tier_Rate.calls kj4 _ _ l0 a2 t158 _ ?side1 ?side2 A35.out).mono ?_); (case side1 => repeat (first | exact (Kd.C_below HR0.out HB.out) | (with_reducible refine Kd.C_alloc ?_ _) | (with_reducible refine Kd.C_drewN ?_ _) | (with_reducible refine Kd.C_drew ?_))); (case side2 => exact HC0.out); rintro e w36 ⟨rfl, hb⟩; refine ⟨_, rfl, ?_⟩; replace HB := bs HB hb; (try clear hb); (try clear hb2); (try clear hk); (try clear hi)) | ((with_reducible refine gate_dst (N := 33) rfl ?_); refine Kd.R_lit k43 _ 43 ?hg (N := 33) ?hd (xs := ([(⟨t156, t158⟩ : S43)] : List (S43))) (inner := [.int .i64 t156, .int .i64 t158]) (ok := fun _ => True) (okp := fun _ => True) ?hr ?hp (fun _ hk => hk) trivial (Below.refl _ _) (Nat.le_refl _) (by simp) ?_; (case hd => rfl); (case hg => rfl); (case hr => first | (go_simp; done) | (go_simp; rfl)); (case hp => exact (Reps.c2 (show Kd.M k43 _ _ _ (⟨t156, t158⟩ : S43) [.int .i64 t156, .int .i64 t158] from (k43_mkM _ _ _ (⟨t156, t158⟩ : S43) )) (Reps.none _ _))); intro v160 w37 ho38 hb hg_ hnew_; clear hg_ hnew_; (first | rw [← Ny159.out] at ho38 | (simp only [Int.reduceToNat] at ho38; rw [← Ny159.out] at ho38)); have HO161 := Aside0.mk (Kd.R_lower ho38 (below_size (hq HB))); replace HB := bs HB hb; clear hb ho38))
          go_ret
          exact ⟨_, by first | rfl | (simp [errW_none, errW_some] <;> rfl) | (simp [*, errW_none, errW_some] <;> rfl), by (with_reducible repeat (first | apply Kd.R_alloc | apply Kd.R_drewN | apply Kd.R_drew)); exact HO161.out, hq HB⟩

-- NOT PRINTED: function 66 (bits_Add64)

/-! ### wide_absolute: function 60 -/
def wide_absolute.f (a0_0 : Int) (a0_1 : Int) : Option (Int × Int) := if a0_0 < 0 then ((wide_negate.f a0_0 a0_1).bind fun bt173 => (some (IntKind.u64.wrap (bt173.1), bt173.2))) else (some (IntKind.u64.wrap (a0_0), a0_1))
set_option maxHeartbeats 8000000 in
set_option maxRecDepth 100000 in
theorem wide_absolute.calls (a0_0 : Int) (a0_1 : Int) (r1 : Int) (r2 : Int) (w : World) (h : wide_absolute.f a0_0 a0_1 = some (r1, r2)) :
    Calls Try.prog 60 #[.agg #[.int .i64 a0_0, .int .u64 a0_1]] w fun e w' => e = .returned (.agg #[.int .u64 r1, .int .u64 r2]) ∧ Below w.heap.size w w' := by
  have hu35 := Try.underlying35
  have hu113 := Try.underlying113
  have HB := Aside0.mk (Below.refl w.heap.size w)
  have H : (if a0_0 < 0 then ((wide_negate.f a0_0 a0_1).bind fun bt173 => (some (IntKind.u64.wrap (bt173.1), bt173.2))) else (some (IntKind.u64.wrap (a0_0), a0_1))) = some (r1, r2) := h
  clear h
  by_cases c2 : a0_0 < 0
  · rw [if_pos c2] at H
    have c2b0 : decide (a0_0 < 0) = true := decide_eq_true c2
    clear c2
    replace H := Option.bind_eq_some_iff.mp H
    obtain ⟨⟨t173, t174⟩, A30, H⟩ := H
    replace H : (some (IntKind.u64.wrap (t173), t174)) = some (r1, r2) := H
    have A3 := Aside0.mk A30
    clear A30
    simp only [Option.some.injEq, Prod.mk.injEq] at H
    obtain ⟨rfl, rfl⟩ := H
    go_enter Try.func60, Try.ntmps60
    go_wp2_with (first | ((with_reducible refine gate_dst (N := 1) rfl ?_); refine box_event ?hg (N := 1) ?hd (cs := #[.int .i64 a0_0, .int .u64 a0_1]) (t := 35) ?hr ?_; (case hd => rfl); (case hg => rfl); (case hr => first | (go_simp; done) | (go_simp; rfl)); intro gb171 hg w4 hbox hb; have BK171 := Aside0.mk (hbox); have GW171 := ge HB hg; have GE171 := ge HB hg; replace HB := bs HB hb; clear hb hbox hg) | ((with_reducible refine gate_dst (N := 2) rfl ?_); refine box_event ?hg (N := 2) ?hd (cs := #[.int .u64 0, .int .u64 0]) (t := 113) ?hr ?_; (case hd => rfl); (case hg => rfl); (case hr => first | (go_simp; done) | (go_simp; rfl)); intro gb172 hg w5 hbox hb; have BK172 := Aside0.mk (hbox); have GW172 := ge HB hg; have GE172 := ge HB hg; have NB171_172 := nl BK171 hg; have NB172_171 := ng NB171_172; replace BK171 := bb BK171 hb; replace HB := bs HB hb; clear hb hbox hg; have hnb6 := NB171_172.out; have hnc6 := NB172_171.out; obtain ⟨hcz7_0, hcz7_1, hfz7_0, hfz7_1⟩ := cz2 BK171) | ((with_reducible refine gate_callee (f := 65) rfl ?_); refine goesL_ (some 7) rfl rfl Try.func65 (by kernel_rfl) rfl #[.agg #[.int .i64 a0_0, .int .u64 a0_1]] rfl zm ?_; (with_reducible refine (wide_negate.calls a0_0 a0_1 t173 t174 _ A3.out).mono ?_); rintro e w8 ⟨rfl, hb⟩; refine ⟨_, rfl, ?_⟩; replace BK171 := bb BK171 hb; replace BK172 := bb BK172 hb; replace HB := bs HB hb; (try clear hb); (try clear hb2); (try clear hk); (try clear hi); obtain ⟨hcz9_0, hcz9_1, hfz9_0, hfz9_1⟩ := cz2 BK171; obtain ⟨hcz10_0, hcz10_1, hfz10_0, hfz10_1⟩ := cz2 BK172))
    refine bodyPost_ret (results_cell_row rfl _ _ gb172 113 #[.int .u64 (IntKind.u64.wrap (t173)), .int .u64 t174] (0, 0) _ rfl (bp BK172) Try.underlying113 rfl (by kernel_rfl)) rfl ?_
    exact ⟨by first | rfl | (simp [errW_none, errW_some] <;> rfl) | (simp [*, errW_none, errW_some] <;> rfl), hq HB⟩
  · rw [if_neg c2] at H
    have c2b0 : decide (a0_0 < 0) = false := decide_eq_false c2
    clear c2
    simp only [Option.some.injEq, Prod.mk.injEq] at H
    obtain ⟨rfl, rfl⟩ := H
    go_enter Try.func60, Try.ntmps60
    go_wp2_with (first | ((with_reducible refine gate_dst (N := 1) rfl ?_); refine box_event ?hg (N := 1) ?hd (cs := #[.int .i64 a0_0, .int .u64 a0_1]) (t := 35) ?hr ?_; (case hd => rfl); (case hg => rfl); (case hr => first | (go_simp; done) | (go_simp; rfl)); intro gb171 hg w11 hbox hb; have BK171 := Aside0.mk (hbox); have GW171 := ge HB hg; have GE171 := ge HB hg; replace HB := bs HB hb; clear hb hbox hg) | ((with_reducible refine gate_dst (N := 2) rfl ?_); refine box_event ?hg (N := 2) ?hd (cs := #[.int .u64 0, .int .u64 0]) (t := 113) ?hr ?_; (case hd => rfl); (case hg => rfl); (case hr => first | (go_simp; done) | (go_simp; rfl)); intro gb172 hg w12 hbox hb; have BK172 := Aside0.mk (hbox); have GW172 := ge HB hg; have GE172 := ge HB hg; have NB171_172 := nl BK171 hg; have NB172_171 := ng NB171_172; replace BK171 := bb BK171 hb; replace HB := bs HB hb; clear hb hbox hg; have hnb13 := NB171_172.out; have hnc13 := NB172_171.out; obtain ⟨hcz14_0, hcz14_1, hfz14_0, hfz14_1⟩ := cz2 BK171; obtain ⟨hcz15_0, hcz15_1, hfz15_0, hfz15_1⟩ := cz2 BK172))
    refine bodyPost_ret (results_cell_row rfl _ _ gb172 113 #[.int .u64 (IntKind.u64.wrap (a0_0)), .int .u64 a0_1] (0, 0) _ rfl (bp BK172) Try.underlying113 rfl (by kernel_rfl)) rfl ?_
    exact ⟨by first | rfl | (simp [errW_none, errW_some] <;> rfl) | (simp [*, errW_none, errW_some] <;> rfl), hq HB⟩

end Go.Proofs.Ytlmabdiodopidaa.P
end
section
set_option linter.unusedVariables false
set_option linter.unusedSimpArgs false
namespace Go.Proofs.Ytlmabdiodopidaa.P
open Go.Proofs.Ytlmabdiodopidaa.G
attribute [local go_sem high] un_not64 un_noti run_add64
open Go.RowKit Go.Proofs.YtlmabdiodopidaaW.PrintWords Go.Proofs.YtlmabdiodopidaaW.PrintLast Go.Proofs.YtlmabdiodopidaaW.PrintMore
attribute [local go_sem] max2_int min2_int max_two min_two max_three min_three max_four min_four   -- for this text's walks alone
set_option linter.unusedVariables false
set_option linter.unusedSimpArgs false

/-! ### wide_abs: function 62 -/
def wide_abs.f (a0 : Int) : Option (Int) := if a0 < 0 then (some (IntKind.u64.wrap (-(IntKind.u64.wrap (a0))))) else (some (IntKind.u64.wrap (a0)))
set_option maxHeartbeats 8000000 in
set_option maxRecDepth 100000 in
theorem wide_abs.calls (a0 : Int) (r : Int) (w : World) (h : wide_abs.f a0 = some r) :
    Calls Try.prog 62 #[.int .i64 a0] w fun e w' => e = .returned (.int .u64 r) ∧ Drawn0 w w' := by
  have H : (if a0 < 0 then (some (IntKind.u64.wrap (-(IntKind.u64.wrap (a0))))) else (some (IntKind.u64.wrap (a0)))) = some r := h
  clear h
  by_cases c2 : a0 < 0
  · rw [if_pos c2] at H
    have c2b0 : decide (a0 < 0) = true := decide_eq_true c2
    clear c2
    obtain rfl := Option.some.inj H
    go_enter Try.func62, Try.ntmps62
    go_wp2
    go_ret
    exact ⟨by first | rfl | (simp; done) | (simp [*]; done), by repeat (first | exact Drawn0.refl _ | apply Drawn0.step)⟩
  · rw [if_neg c2] at H
    have c2b0 : decide (a0 < 0) = false := decide_eq_false c2
    clear c2
    obtain rfl := Option.some.inj H
    go_enter Try.func62, Try.ntmps62
    go_wp2
    go_ret
    exact ⟨by first | rfl | (simp; done) | (simp [*]; done), by repeat (first | exact Drawn0.refl _ | apply Drawn0.step)⟩

/-! ### wide_size_signed: function 63 -/
def wide_size_signed.j0 : Nat → Bool → Bool → Int → Int → Option (Int × Int × Int)
  | 0, _, _, _, _ => none
  | k + 1, x1, x23, x176000, x176001 => if x23 = true then (some (0, 0, 6)) else (if x1 = true then ((wide_negate.f (wrap64 (x176000)) x176001).bind fun bt178 => (some (bt178.1, bt178.2, 0))) else (some (wrap64 (x176000), x176001, 0)))
def wide_size_signed.f (k : Nat) (a0_0 : Int) (a0_1 : Int) (a1 : Bool) : Option (Int × Int × Int) := if a0_0 > 9223372036854775808 then (wide_size_signed.j0 k a1 true a0_0 a0_1) else (if a0_0 = 9223372036854775808 then (if a1 = true then (wide_size_signed.j0 k a1 (decide (a0_1 > 0)) a0_0 a0_1) else (wide_size_signed.j0 k a1 true a0_0 a0_1)) else (wide_size_signed.j0 k a1 false a0_0 a0_1))
theorem wide_size_signed.mono_l : ∀ k, (∀ y0 y1 y2 y3, LeO (wide_size_signed.j0 k y0 y1 y2 y3) (wide_size_signed.j0 (k + 1) y0 y1 y2 y3))
  | 0 => fun _ _ _ _ r h => by simp [wide_size_signed.j0] at h
  | k + 1 => by
    have ih0 := wide_size_signed.mono_l k
    · intro y0 y1 y2 y3
      unfold wide_size_signed.j0
      repeat' first
      | (with_reducible exact ih0 _ _ _ _)
      | (with_reducible exact LeO.refl _)
      | (with_reducible exact LeO.none _)
      | (with_reducible refine LeO.ite ?_ ?_)
      | (with_reducible refine LeO.bind ?_ (fun _ => ?_))
      | exact ih0 _ _ _ _
      | exact LeO.none _
      | refine LeO.ite ?_ ?_
      | refine LeO.bind ?_ (fun _ => ?_)
theorem wide_size_signed.mono : ∀ a0 a1 a2 k, LeO (wide_size_signed.f k a0 a1 a2) (wide_size_signed.f (k + 1) a0 a1 a2) := by
  intro a0 a1 a2 k
  have ih0 := wide_size_signed.mono_l k
  unfold wide_size_signed.f
  repeat' first
      | (with_reducible exact ih0 _ _ _ _)
      | (with_reducible exact LeO.refl _)
      | (with_reducible exact LeO.none _)
      | (with_reducible refine LeO.ite ?_ ?_)
      | (with_reducible refine LeO.bind ?_ (fun _ => ?_))
      | exact ih0 _ _ _ _
      | exact LeO.none _
      | refine LeO.ite ?_ ?_
      | refine LeO.bind ?_ (fun _ => ?_)
set_option maxHeartbeats 8000000 in
set_option maxRecDepth 100000 in
theorem wide_size_signed.calls (k : Nat) (a0_0 : Int) (a0_1 : Int) (a1 : Bool) (r1 : Int) (r2 : Int) (r3 : Int) (w : World) (h : wide_size_signed.f k a0_0 a0_1 a1 = some (r1, r2, r3)) :
    Calls Try.prog 63 #[.agg #[.int .u64 a0_0, .int .u64 a0_1], .bool a1] w fun e w' => e = .returned (.tuple #[.agg #[.int .i64 r1, .int .u64 r2], .int .i64 r3]) ∧ Below w.heap.size w w' := by
  have hu113 := Try.underlying113
  have hu35 := Try.underlying35
  have HB := Aside0.mk (Below.refl w.heap.size w)
  have H : (if a0_0 > 9223372036854775808 then (wide_size_signed.j0 k a1 true a0_0 a0_1) else (if a0_0 = 9223372036854775808 then (if a1 = true then (wide_size_signed.j0 k a1 (decide (a0_1 > 0)) a0_0 a0_1) else (wide_size_signed.j0 k a1 true a0_0 a0_1)) else (wide_size_signed.j0 k a1 false a0_0 a0_1))) = some (r1, r2, r3) := h
  clear h
  have HC3 := Aside0.mk H
  clear H
  go_enter Try.func63, Try.ntmps63
  go_upto_region 1 with (first | ((with_reducible refine gate_dst (N := 2) rfl ?_); refine box_event ?hg (N := 2) ?hd (cs := #[.int .u64 a0_0, .int .u64 a0_1]) (t := 113) ?hr ?_; (case hd => rfl); (case hg => rfl); (case hr => first | (go_simp; done) | (go_simp; rfl)); intro gb175 hg w4 hbox hb; have BK175 := Aside0.mk (hbox); have GW175 := ge HB hg; have GE175 := ge HB hg; replace HB := bs HB hb; clear hb hbox hg) | ((with_reducible refine gate_dst (N := 4) rfl ?_); refine box_event ?hg (N := 4) ?hd (cs := #[.int .i64 0, .int .u64 0]) (t := 35) ?hr ?_; (case hd => rfl); (case hg => rfl); (case hr => first | (go_simp; done) | (go_simp; rfl)); intro gb176 hg w5 hbox hb; have BK176 := Aside0.mk (hbox); have GW176 := ge HB hg; have GE176 := ge HB hg; have NB175_176 := nl BK175 hg; have NB176_175 := ng NB175_176; replace BK175 := bb BK175 hb; replace HB := bs HB hb; clear hb hbox hg))
  (try simp only [Act.put, List.setIfInBounds_toArray, List.set_cons_zero, List.set_cons_succ])
  go_cut [23] (fun v23 wc => ∃ (kq : Nat) (x23_2 : Bool), v23 = .bool x23_2 ∧ Aside0 (wide_size_signed.j0 kq a1 x23_2 a0_0 a0_1 = some (r1, r2, r3)) ∧ Aside0 (kq ≤ k) ∧ Aside0 (wc.heap[gb175]? = some (.cells #[.int .u64 a0_0, .int .u64 a0_1] 113 (0, 0))) ∧ Aside0 (wc.heap[gb176]? = some (.cells #[.int .i64 0, .int .u64 0] 35 (0, 0))) ∧ Aside0 (Below w.heap.size w wc))
  case first =>
    have H := HC3.out
    clear HC3
    by_cases c6 : a0_0 > 9223372036854775808
    · rw [if_pos c6] at H
      have c6b0 : decide (9223372036854775808 < a0_0) = true := decide_eq_true c6
      clear c6
      (first | rw [c6b0] | (simp only [i64_w, i32_w]; rw [c6b0]) | skip)
      have H' := Aside0.mk H
      clear H
      have hnb7 := NB175_176.out
      have hnc7 := NB176_175.out
      obtain ⟨hcz8_0, hcz8_1, hfz8_0, hfz8_1⟩ := cz2 BK175
      go_wp2
      go_meet
      case rel => exact ⟨_, (true), (by first | rfl | (simp; done) | (simp [*]; done)), H', ⟨by first | omega | exact Nat.le_refl _⟩, ⟨bq BK175⟩, ⟨bq BK176⟩, ⟨hq HB⟩⟩
    · rw [if_neg c6] at H
      have c6b0 : decide (9223372036854775808 < a0_0) = false := decide_eq_false c6
      clear c6
      (first | rw [c6b0] | (simp only [i64_w, i32_w]; rw [c6b0]) | skip)
      by_cases c9 : a0_0 = 9223372036854775808
      · rw [if_pos c9] at H
        have c9b0 : (a0_0 == 9223372036854775808) = true := beq_iff_eq.mpr c9
        have c9b1 : (a0_0 != 9223372036854775808) = false := bne_eq_false_iff_eq.mpr c9
        clear c9
        by_cases c10 : a1 = true
        · subst c10
          have H1 : (wide_size_signed.j0 k true (decide (a0_1 > 0)) a0_0 a0_1) = some (r1, r2, r3) := by rw [if_pos rfl] at H; exact H
          clear H
          have H := H1
          clear H1
          have H' := Aside0.mk H
          clear H
          have hnb11 := NB175_176.out
          have hnc11 := NB176_175.out
          obtain ⟨hcz12_0, hcz12_1, hfz12_0, hfz12_1⟩ := cz2 BK175
          go_wp2
          go_meet
          case rel => exact ⟨_, (decide (a0_1 > 0)), (by first | rfl | (simp; done) | (simp [*]; done)), H', ⟨by first | omega | exact Nat.le_refl _⟩, ⟨bq BK175⟩, ⟨bq BK176⟩, ⟨hq HB⟩⟩
        · replace c10 := Bool.eq_false_iff.mpr c10
          subst c10
          have H1 : (wide_size_signed.j0 k false true a0_0 a0_1) = some (r1, r2, r3) := by rw [if_neg (show ¬ (false = true) by decide)] at H; exact H
          clear H
          have H := H1
          clear H1
          have H' := Aside0.mk H
          clear H
          have hnb13 := NB175_176.out
          have hnc13 := NB176_175.out
          obtain ⟨hcz14_0, hcz14_1, hfz14_0, hfz14_1⟩ := cz2 BK175
          go_wp2
          go_meet
          case rel => exact ⟨_, (true), (by first | rfl | (simp; done) | (simp [*]; done)), H', ⟨by first | omega | exact Nat.le_refl _⟩, ⟨bq BK175⟩, ⟨bq BK176⟩, ⟨hq HB⟩⟩
      · rw [if_neg c9] at H
        have c9b0 : (a0_0 == 9223372036854775808) = false := beq_eq_false_iff_ne.mpr c9
        have c9b1 : (a0_0 != 9223372036854775808) = true := bne_iff_ne.mpr c9
        have H' := Aside0.mk H
        clear H
        have hnb15 := NB175_176.out
        have hnc15 := NB176_175.out
        obtain ⟨hcz16_0, hcz16_1, hfz16_0, hfz16_1⟩ := cz2 BK175
        go_wp2
        go_meet
        case rel => exact ⟨_, (false), (by first | rfl | (simp; done) | (simp [*]; done)), H', ⟨by first | omega | exact Nat.le_refl _⟩, ⟨bq BK175⟩, ⟨bq BK176⟩, ⟨hq HB⟩⟩
  case rest =>
    clear HC3
    try clear c1
    try clear p2
    try clear c6
    try clear c6b0
    try clear c7
    try clear c9
    try clear c9b0
    try clear c9b1
    try clear c10
    try clear c11
    try clear c13
    try clear c15
    try clear hcz12_0
    try clear hcz12_1
    try clear hcz14_0
    try clear hcz14_1
    try clear hcz16_0
    try clear hcz16_1
    try clear hcz8_0
    try clear hcz8_1
    try clear hfz12_0
    try clear hfz12_1
    try clear hfz14_0
    try clear hfz14_1
    try clear hfz16_0
    try clear hfz16_1
    try clear hfz8_0
    try clear hfz8_1
    obtain ⟨kq, x23_2, rfl, HA, HJ2, BK175, BK176, HB⟩ := hcut
    cases kq with
    | zero => exact absurd HA.out (by simp [wide_size_signed.j0])
    | succ kj2 =>
      have H := HA.out
      clear HA
      simp only [wide_size_signed.j0] at H
      by_cases c17 : x23_2 = true
      · subst c17
        have H1 : (some (0, 0, 6)) = some (r1, r2, r3) := by rw [if_pos rfl] at H; exact H
        clear H
        have H := H1
        clear H1
        simp only [Option.some.injEq, Prod.mk.injEq] at H
        obtain ⟨rfl, rfl, rfl⟩ := H
        have hnb18 := NB176_175.out
        have hnc18 := NB175_176.out
        obtain ⟨hcz19_0, hcz19_1, hfz19_0, hfz19_1⟩ := cz2 BK176
        go_wp2
        refine bodyPost_ret (results_ct rfl _ _ gb176 35 #[.int .i64 0, .int .u64 0] (0, 0) _ rfl (bp BK176) Try.underlying35 rfl (by kernel_rfl)) rfl ?_
        exact ⟨by first | rfl | (simp [errW_none, errW_some] <;> rfl) | (simp [*, errW_none, errW_some] <;> rfl), hq HB⟩
      · replace c17 := Bool.eq_false_iff.mpr c17
        subst c17
        have H1 : (if a1 = true then ((wide_negate.f (wrap64 (a0_0)) a0_1).bind fun bt178 => (some (bt178.1, bt178.2, 0))) else (some (wrap64 (a0_0), a0_1, 0))) = some (r1, r2, r3) := by rw [if_neg (show ¬ (false = true) by decide)] at H; exact H
        clear H
        have H := H1
        clear H1
        by_cases c20 : a1 = true
        · subst c20
          have H1 : ((wide_negate.f (wrap64 (a0_0)) a0_1).bind fun bt178 => (some (bt178.1, bt178.2, 0))) = some (r1, r2, r3) := by rw [if_pos rfl] at H; exact H
          clear H
          have H := H1
          clear H1
          replace H := Option.bind_eq_some_iff.mp H
          obtain ⟨⟨t178, t179⟩, A210, H⟩ := H
          replace H : (some (t178, t179, 0)) = some (r1, r2, r3) := H
          have A21 := Aside0.mk A210
          clear A210
          simp only [Option.some.injEq, Prod.mk.injEq] at H
          obtain ⟨rfl, rfl, rfl⟩ := H
          have hnb22 := NB175_176.out
          have hnc22 := NB176_175.out
          obtain ⟨hcz23_0, hcz23_1, hfz23_0, hfz23_1⟩ := cz2 BK175
          go_wp2_with (first | ((with_reducible refine gate_dst (N := 6) rfl ?_); refine box_event ?hg (N := 6) ?hd (cs := #[.int .i64 0, .int .u64 0]) (t := 35) ?hr ?_; (case hd => rfl); (case hg => rfl); (case hr => first | (go_simp; done) | (go_simp; rfl)); intro gb177 hg w24 hbox hb; have BK177 := Aside0.mk (hbox); have GW177 := ge HB hg; have GE177 := ge HB hg; have NB175_177 := nl BK175 hg; have NB177_175 := ng NB175_177; have NB176_177 := nl BK176 hg; have NB177_176 := ng NB176_177; replace BK175 := bb BK175 hb; replace BK176 := bb BK176 hb; replace HB := bs HB hb; clear hb hbox hg; have hnb25 := NB177_175.out; have hnc25 := NB175_177.out; have hnb26 := NB177_176.out; have hnc26 := NB176_177.out; obtain ⟨hcz27_0, hcz27_1, hfz27_0, hfz27_1⟩ := cz2 BK177) | ((with_reducible refine gate_callee (f := 65) rfl ?_); refine goesL_ (some 33) rfl rfl Try.func65 (by kernel_rfl) rfl #[.agg #[.int .i64 (wrap64 (a0_0)), .int .u64 a0_1]] rfl zm ?_; (with_reducible refine (wide_negate.calls (wrap64 (a0_0)) a0_1 t178 t179 _ A21.out).mono ?_); rintro e w28 ⟨rfl, hb⟩; refine ⟨_, rfl, ?_⟩; replace BK175 := bb BK175 hb; replace BK176 := bb BK176 hb; replace BK177 := bpb BK177 hb #[.int .i64 (wrap64 (a0_0)), .int .u64 a0_1]; replace HB := bs HB hb; (try clear hb); (try clear hb2); (try clear hk); (try clear hi); obtain ⟨hcz29_0, hcz29_1, hfz29_0, hfz29_1⟩ := cz2 BK177; obtain ⟨hcz30_0, hcz30_1, hfz30_0, hfz30_1⟩ := cz2 BK176))
          refine bodyPost_ret (results_ct rfl _ _ gb176 35 #[.int .i64 t178, .int .u64 t179] (0, 0) _ rfl (bp BK176) Try.underlying35 rfl (by kernel_rfl)) rfl ?_
          exact ⟨by first | rfl | (simp [errW_none, errW_some] <;> rfl) | (simp [*, errW_none, errW_some] <;> rfl), hq HB⟩
        · replace c20 := Bool.eq_false_iff.mpr c20
          subst c20
          have H1 : (some (wrap64 (a0_0), a0_1, 0)) = some (r1, r2, r3) := by rw [if_neg (show ¬ (false = true) by decide)] at H; exact H
          clear H
          have H := H1
          clear H1
          simp only [Option.some.injEq, Prod.mk.injEq] at H
          obtain ⟨rfl, rfl, rfl⟩ := H
          have hnb31 := NB175_176.out
          have hnc31 := NB176_175.out
          obtain ⟨hcz32_0, hcz32_1, hfz32_0, hfz32_1⟩ := cz2 BK175
          go_wp2_with (first | ((with_reducible refine gate_dst (N := 6) rfl ?_); refine box_event ?hg (N := 6) ?hd (cs := #[.int .i64 0, .int .u64 0]) (t := 35) ?hr ?_; (case hd => rfl); (case hg => rfl); (case hr => first | (go_simp; done) | (go_simp; rfl)); intro gb177 hg w33 hbox hb; have BK177 := Aside0.mk (hbox); have GW177 := ge HB hg; have GE177 := ge HB hg; have NB175_177 := nl BK175 hg; have NB177_175 := ng NB175_177; have NB176_177 := nl BK176 hg; have NB177_176 := ng NB176_177; replace BK175 := bb BK175 hb; replace BK176 := bb BK176 hb; replace HB := bs HB hb; clear hb hbox hg; have hnb34 := NB177_175.out; have hnc34 := NB175_177.out; have hnb35 := NB177_176.out; have hnc35 := NB176_177.out; obtain ⟨hcz36_0, hcz36_1, hfz36_0, hfz36_1⟩ := cz2 BK177; obtain ⟨hcz37_0, hcz37_1, hfz37_0, hfz37_1⟩ := cz2 BK176))
          refine bodyPost_ret (results_ct rfl _ _ gb176 35 #[.int .i64 (wrap64 (a0_0)), .int .u64 a0_1] (0, 0) _ rfl (bp BK176) Try.underlying35 rfl (by kernel_rfl)) rfl ?_
          exact ⟨by first | rfl | (simp [errW_none, errW_some] <;> rfl) | (simp [*, errW_none, errW_some] <;> rfl), hq HB⟩

end Go.Proofs.Ytlmabdiodopidaa.P
end
section
set_option linter.unusedVariables false
set_option linter.unusedSimpArgs false
namespace Go.Proofs.Ytlmabdiodopidaa.P
open Go.Proofs.Ytlmabdiodopidaa.G
attribute [local go_sem high] un_not64 un_noti run_add64
open Go.RowKit Go.Proofs.YtlmabdiodopidaaW.PrintWords Go.Proofs.YtlmabdiodopidaaW.PrintLast Go.Proofs.YtlmabdiodopidaaW.PrintMore
attribute [local go_sem] max2_int min2_int max_two min_two max_three min_three max_four min_four   -- for this text's walks alone
set_option linter.unusedVariables false
set_option linter.unusedSimpArgs false

attribute [local go_sem high] eqA113
/-! ### wide_Scale: function 43 -/
def wide_Scale.f (k : Nat) (a0_0 : Int) (a0_1 : Int) (a1 : Int) : Option (Int × Int × Int) := (wide_absolute.f a0_0 a0_1).bind fun bt182 => ((wide_abs.f a1).bind fun t184 => ((wide_size_times.f bt182.1 bt182.2 t184 0).bind fun bt185 => (if bt185.2.2 = true then (if ((decide (a0_0 < 0)) != (decide (a1 < 0))) = true then ((wide_size_signed.f k bt185.1 bt185.2.1 (!(bt185.1 == 0) || (!(bt185.2.1 == 0)))).bind fun bt189 => (some (bt189.1, bt189.2.1, bt189.2.2))) else ((wide_size_signed.f k bt185.1 bt185.2.1 false).bind fun bt192 => (some (bt192.1, bt192.2.1, bt192.2.2)))) else (some (0, 0, 6)))))
theorem wide_Scale.mono : ∀ a0 a1 a2 k, LeO (wide_Scale.f k a0 a1 a2) (wide_Scale.f (k + 1) a0 a1 a2) := by
  intro a0 a1 a2 k
  unfold wide_Scale.f
  repeat' first
      | (with_reducible exact wide_size_signed.mono _ _ _ _)
      | (with_reducible exact LeO.refl _)
      | (with_reducible exact LeO.none _)
      | (with_reducible refine LeO.ite ?_ ?_)
      | (with_reducible refine LeO.bind ?_ (fun _ => ?_))
      | exact wide_size_signed.mono _ _ _ _
      | exact LeO.none _
      | refine LeO.ite ?_ ?_
      | refine LeO.bind ?_ (fun _ => ?_)
def wide_Scale.T4 : Bool × List (List Nat × List Nat) := (true, [([], []), ([], []), ([1], [1]), ([2], [2]), ([], []), ([4], [4]), ([3, 5], [3, 5]), ([6], [6]), ([7], [7]), ([7], [7]), ([8, 9, 7], [7, 8, 9]), ([7, 10], [7, 10]), ([0, 11, 7], [0, 11]), ([12], [12]), ([12], [12]), ([13, 12, 0, 1, 2, 3, 4, 5, 6, 7, 8, 9, 10, 11, 12, 13, 14], [13]), ([14, 15, 0, 1, 2, 3, 4, 5, 6, 7, 8, 9, 10, 11, 12, 13, 14, 15], [14])])
def wide_Scale.B4 : List Nat := [0, 0, 2, 6, 0, 16, 62, 126, 254, 254, 1022, 2046, 4095, 8191, 8191, 32767, 65535]
theorem wide_Scale.tab4 : rtab .any (opsOf Try.f43 4) = wide_Scale.T4 := by kernel_rfl
theorem wide_Scale.bits4 : waitsOk wide_Scale.T4.2 wide_Scale.B4 = true := by kernel_rfl
set_option maxHeartbeats 8000000 in
set_option maxRecDepth 100000 in
theorem wide_Scale.calls (k : Nat) (a0_0 : Int) (a0_1 : Int) (a1 : Int) (r1 : Int) (r2 : Int) (r3 : Int) (w : World) (h : wide_Scale.f k a0_0 a0_1 a1 = some (r1, r2, r3)) :
    Calls Try.prog 43 #[.agg #[.int .i64 a0_0, .int .u64 a0_1], .int .i64 a1] w fun e w' => e = .returned (.tuple #[.agg #[.int .i64 r1, .int .u64 r2], .int .i64 r3]) ∧ Below w.heap.size w w' := by
  have hu35 := Try.underlying35
  have hu113 := Try.underlying113
  have HB := Aside0.mk (Below.refl w.heap.size w)
  have H : ((wide_absolute.f a0_0 a0_1).bind fun bt182 => ((wide_abs.f a1).bind fun t184 => ((wide_size_times.f bt182.1 bt182.2 t184 0).bind fun bt185 => (if bt185.2.2 = true then (if ((decide (a0_0 < 0)) != (decide (a1 < 0))) = true then ((wide_size_signed.f k bt185.1 bt185.2.1 (!(bt185.1 == 0) || (!(bt185.2.1 == 0)))).bind fun bt189 => (some (bt189.1, bt189.2.1, bt189.2.2))) else ((wide_size_signed.f k bt185.1 bt185.2.1 false).bind fun bt192 => (some (bt192.1, bt192.2.1, bt192.2.2)))) else (some (0, 0, 6)))))) = some (r1, r2, r3) := h
  clear h
  replace H := Option.bind_eq_some_iff.mp H
  obtain ⟨⟨t182, t183⟩, A30, H⟩ := H
  replace H : ((wide_abs.f a1).bind fun t184 => ((wide_size_times.f t182 t183 t184 0).bind fun bt185 => (if bt185.2.2 = true then (if ((decide (a0_0 < 0)) != (decide (a1 < 0))) = true then ((wide_size_signed.f k bt185.1 bt185.2.1 (!(bt185.1 == 0) || (!(bt185.2.1 == 0)))).bind fun bt189 => (some (bt189.1, bt189.2.1, bt189.2.2))) else ((wide_size_signed.f k bt185.1 bt185.2.1 false).bind fun bt192 => (some (bt192.1, bt192.2.1, bt192.2.2)))) else (some (0, 0, 6))))) = some (r1, r2, r3) := H
  have A3 := Aside0.mk A30
  clear A30
  replace H := Option.bind_eq_some_iff.mp H
  obtain ⟨t184, A40, H⟩ := H
  replace H : ((wide_size_times.f t182 t183 t184 0).bind fun bt185 => (if bt185.2.2 = true then (if ((decide (a0_0 < 0)) != (decide (a1 < 0))) = true then ((wide_size_signed.f k bt185.1 bt185.2.1 (!(bt185.1 == 0) || (!(bt185.2.1 == 0)))).bind fun bt189 => (some (bt189.1, bt189.2.1, bt189.2.2))) else ((wide_size_signed.f k bt185.1 bt185.2.1 false).bind fun bt192 => (some (bt192.1, bt192.2.1, bt192.2.2)))) else (some (0, 0, 6)))) = some (r1, r2, r3) := H
  have A4 := Aside0.mk A40
  clear A40
  replace H := Option.bind_eq_some_iff.mp H
  obtain ⟨⟨t185, t186, t187⟩, A50, H⟩ := H
  replace H : (if t187 = true then (if ((decide (a0_0 < 0)) != (decide (a1 < 0))) = true then ((wide_size_signed.f k t185 t186 (!(t185 == 0) || (!(t186 == 0)))).bind fun bt189 => (some (bt189.1, bt189.2.1, bt189.2.2))) else ((wide_size_signed.f k t185 t186 false).bind fun bt192 => (some (bt192.1, bt192.2.1, bt192.2.2)))) else (some (0, 0, 6))) = some (r1, r2, r3) := H
  have A5 := Aside0.mk A50
  clear A50
  by_cases c6 : t187 = true
  · subst c6
    have H1 : (if ((decide (a0_0 < 0)) != (decide (a1 < 0))) = true then ((wide_size_signed.f k t185 t186 (!(t185 == 0) || (!(t186 == 0)))).bind fun bt189 => (some (bt189.1, bt189.2.1, bt189.2.2))) else ((wide_size_signed.f k t185 t186 false).bind fun bt192 => (some (bt192.1, bt192.2.1, bt192.2.2)))) = some (r1, r2, r3) := by rw [if_pos rfl] at H; exact H
    clear H
    have H := H1
    clear H1
    by_cases c7 : ((decide (a0_0 < 0)) != (decide (a1 < 0))) = true
    · rw [if_pos c7] at H
      have c7b0 : ((decide (a0_0 < 0)) != (decide (a1 < 0))) = true := c7
      (try (have c7b1 : decide ((decide (a0_0 < 0)) = (decide (a1 < 0))) = false := by simpa using c7))
      (try (have c7b2 : ((decide (a0_0 < 0)) == (decide (a1 < 0))) = false := by simpa using c7))
      (try (have c7b3 : ¬ ((decide (a0_0 < 0)) = (decide (a1 < 0))) := by simpa using c7))
      clear c7
      replace H := Option.bind_eq_some_iff.mp H
      obtain ⟨⟨t189, t190, t191⟩, A80, H⟩ := H
      replace H : (some (t189, t190, t191)) = some (r1, r2, r3) := H
      have A8 := Aside0.mk A80
      clear A80
      simp only [Option.some.injEq, Prod.mk.injEq] at H
      obtain ⟨rfl, rfl, rfl⟩ := H
      go_enter Try.func43, Try.ntmps43
      try go_wp2_with (first | ((with_reducible refine gate_dst (N := 2) rfl ?_); refine box_event ?hg (N := 2) ?hd (cs := #[.int .i64 a0_0, .int .u64 a0_1]) (t := 35) ?hr ?_; (case hd => rfl); (case hg => rfl); (case hr => first | (go_simp; done) | (go_simp; rfl)); intro gb180 hg w9 hbox hb; have BK180 := Aside0.mk (hbox); have GW180 := ge HB hg; have GE180 := ge HB hg; replace HB := bs HB hb; clear hb hbox hg) | ((with_reducible refine gate_dst (N := 4) rfl ?_); refine box_event ?hg (N := 4) ?hd (cs := #[.int .i64 0, .int .u64 0]) (t := 35) ?hr ?_; (case hd => rfl); (case hg => rfl); (case hr => first | (go_simp; done) | (go_simp; rfl)); intro gb181 hg w10 hbox hb; have BK181 := Aside0.mk (hbox); have GW181 := ge HB hg; have GE181 := ge HB hg; have NB180_181 := nl BK180 hg; have NB181_180 := ng NB180_181; replace BK180 := bb BK180 hb; replace HB := bs HB hb; clear hb hbox hg; have hnb11 := NB180_181.out; have hnc11 := NB181_180.out; obtain ⟨hcz12_0, hcz12_1, hfz12_0, hfz12_1⟩ := cz2 BK180) | ((with_reducible refine gate_callee (f := 60) rfl ?_); refine goesL_ (some 10) rfl rfl Try.func60 (by kernel_rfl) rfl #[.agg #[.int .i64 a0_0, .int .u64 a0_1]] rfl zm ?_; (with_reducible refine (wide_absolute.calls a0_0 a0_1 t182 t183 _ A3.out).mono ?_); rintro e w13 ⟨rfl, hb⟩; refine ⟨_, rfl, ?_⟩; replace BK180 := bb BK180 hb; replace BK181 := bb BK181 hb; replace HB := bs HB hb; (try clear hb); (try clear hb2); (try clear hk); (try clear hi)) | ((with_reducible refine gate_callee (f := 62) rfl ?_); refine goesL_ (some 12) rfl rfl Try.func62 (by kernel_rfl) rfl #[.int .i64 a1] rfl zm ?_; (with_reducible refine (wide_abs.calls a1 t184 _ A4.out).mono ?_); rintro e w' ⟨rfl, ⟨nd, rfl⟩⟩; refine ⟨_, rfl, ?_⟩; (try (rw [drewN_self w13]; generalize hq_ : World.drewN w13 _ = w13; replace BK180 : Aside0 (w13.heap[gb180]? = some (.cells #[.int .i64 a0_0, .int .u64 a0_1] 35 (0, 0))) := ⟨by rw [← hq_]; exact (bq BK180)⟩; replace BK181 : Aside0 (w13.heap[gb181]? = some (.cells #[.int .i64 0, .int .u64 0] 35 (0, 0))) := ⟨by rw [← hq_]; exact (bq BK181)⟩; replace HB : Aside0 (Below w.heap.size w w13) := ⟨by rw [← hq_]; exact (hq HB)⟩; clear hq_))) | ((with_reducible refine gate_callee (f := 61) rfl ?_); refine goesL_ (some 13) rfl rfl Try.func61 (by kernel_rfl) rfl #[.agg #[.int .u64 t182, .int .u64 t183], .int .u64 t184, .int .u64 0] rfl zm ?_; (with_reducible refine (wide_size_times.calls t182 t183 t184 0 t185 t186 true _ A5.out).mono ?_); rintro e w14 ⟨rfl, hb⟩; refine ⟨_, rfl, ?_⟩; replace BK180 := bb BK180 hb; replace BK181 := bb BK181 hb; replace HB := bs HB hb; (try clear hb); (try clear hb2); (try clear hk); (try clear hi)) | ((with_reducible refine gate_dst (N := 6) rfl ?_); refine box_event ?hg (N := 6) ?hd (cs := #[.int .u64 0, .int .u64 0]) (t := 113) ?hr ?_; (case hd => rfl); (case hg => rfl); (case hr => first | (go_simp; done) | (go_simp; rfl)); intro gb188 hg w15 hbox hb; have BK188 := Aside0.mk (hbox); have GW188 := ge HB hg; have GE188 := ge HB hg; have NB180_188 := nl BK180 hg; have NB188_180 := ng NB180_188; have NB181_188 := nl BK181 hg; have NB188_181 := ng NB181_188; replace BK180 := bb BK180 hb; replace BK181 := bb BK181 hb; replace HB := bs HB hb; clear hb hbox hg; have hnb16 := NB188_180.out; have hnc16 := NB180_188.out; have hnb17 := NB188_181.out; have hnc17 := NB181_188.out; obtain ⟨hcz18_0, hcz18_1, hfz18_0, hfz18_1⟩ := cz2 BK188))
      have n0_ : Aside0 (((w15.setCell ⟨gb188, 0, none⟩ (.int .u64 t185)).setCell ⟨gb188, 1, none⟩ (.int .u64 t186)).heap[gb180]? = some (.cells #[.int .i64 a0_0, .int .u64 a0_1] 35 (0, 0))) := ⟨bq BK180⟩
      have n1_ : Aside0 (((w15.setCell ⟨gb188, 0, none⟩ (.int .u64 t185)).setCell ⟨gb188, 1, none⟩ (.int .u64 t186)).heap[gb181]? = some (.cells #[.int .i64 0, .int .u64 0] 35 (0, 0))) := ⟨bq BK181⟩
      have n2_ : Aside0 (((w15.setCell ⟨gb188, 0, none⟩ (.int .u64 t185)).setCell ⟨gb188, 1, none⟩ (.int .u64 t186)).heap[gb188]? = some (.cells #[.int .u64 t185, .int .u64 t186] 113 (0, 0))) := ⟨bp BK188⟩
      have n3_ : Aside0 (Below w.heap.size w ((w15.setCell ⟨gb188, 0, none⟩ (.int .u64 t185)).setCell ⟨gb188, 1, none⟩ (.int .u64 t186))) := ⟨hq HB⟩
      (try clear BK180)
      (try clear BK181)
      (try clear BK188)
      (try clear HB)
      generalize ((w15.setCell ⟨gb188, 0, none⟩ (.int .u64 t185)).setCell ⟨gb188, 1, none⟩ (.int .u64 t186)) = w19 at n0_ n1_ n2_ n3_ ⊢
      have BK180 := n0_
      have BK181 := n1_
      have BK188 := n2_
      have HB := n3_
      clear n0_ n1_ n2_ n3_
      replace BK180 := bd1 BK180
      replace BK181 := bd1 BK181
      replace BK188 := bd1 BK188
      replace HB := hb1 HB
      refine start_ (n := 17) (S := fun w' => w'.cell? ⟨gb188, 0, none⟩ = some (.int .u64 t185) ∧ w'.cell? ⟨gb188, 1, none⟩ = some (.int .u64 t186) ∧ w'.cell? ⟨gb180, 0, none⟩ = some (.int .i64 a0_0) ∧ w'.cell? ⟨gb180, 1, none⟩ = some (.int .u64 a0_1)) (ds := []) #[false, false, false, false, false, false, false, false, false, false, false, false, false, false, false, false, false] (by kernel_rfl) rfl rfl ⟨(blk_cell BK188.out 0).trans rfl, (blk_cell BK188.out 1).trans rfl, (blk_cell BK180.out 0).trans rfl, (blk_cell BK180.out 1).trans rfl⟩ (fun hHeld => ?_); refine with_tabW wide_Scale.tab4 wide_Scale.bits4 (fun HT_ HW_ => ?_)
      generalize w19.drew = w20 at BK180 BK181 BK188 HB hHeld ⊢
      refine pz (i := 1) (N := some 20) #[false, true, false, false, false, false, false, false, false, false, false, false, false, false, false, false, false] rfl rfl (any_of HT_.out (by kernel_rfl)) (fun _ _ _ h => h) ?_
      refine pz (i := 4) (N := some 23) #[false, true, false, false, true, false, false, false, false, false, false, false, false, false, false, false, false] rfl rfl (any_of HT_.out (by kernel_rfl)) (fun _ _ _ h => h) ?_
      refine pz (i := 5) (N := some 24) #[false, true, false, false, true, true, false, false, false, false, false, false, false, false, false, false, false] rfl rfl (any_of HT_.out (by kernel_rfl)) (fun _ _ _ h => h) ?_
      refine tz4 (i := 0) (N := some 19) #[true, true, false, false, true, true, false, false, false, false, false, false, false, false, false, false, false] rfl rfl (take_ofW HT_.out HW_.out (by kernel_rfl)) (fun _ _ _ h => h) hHeld ?_
      refine tz4 (i := 2) (N := some 21) #[true, true, true, false, true, true, false, false, false, false, false, false, false, false, false, false, false] rfl rfl (take_ofW HT_.out HW_.out (by kernel_rfl)) (fun _ _ _ h => h) hHeld ?_
      refine pz (i := 3) (N := some 22) #[true, true, true, true, true, true, false, false, false, false, false, false, false, false, false, false, false] rfl rfl (any_of HT_.out (by kernel_rfl)) (fun _ _ _ h => h) ?_
      refine pz (i := 6) (N := some 25) #[true, true, true, true, true, true, true, false, false, false, false, false, false, false, false, false, false] rfl rfl (any_of HT_.out (by kernel_rfl)) (fun _ _ _ h => h) ?_
      refine pz (i := 7) (N := some 26) #[true, true, true, true, true, true, true, true, false, false, false, false, false, false, false, false, false] rfl rfl (any_of HT_.out (by kernel_rfl)) (fun _ _ _ h => h) ?_
      refine pz (i := 9) (N := some 28) #[true, true, true, true, true, true, true, true, false, true, false, false, false, false, false, false, false] rfl rfl (any_of HT_.out (by kernel_rfl)) (fun _ _ _ h => h) ?_
      refine tz4 (i := 8) (N := some 27) #[true, true, true, true, true, true, true, true, true, true, false, false, false, false, false, false, false] rfl rfl (take_ofW HT_.out HW_.out (by kernel_rfl)) (fun _ _ _ h => h) hHeld ?_
      refine pz (i := 10) (N := some 29) #[true, true, true, true, true, true, true, true, true, true, true, false, false, false, false, false, false] rfl rfl (any_of HT_.out (by kernel_rfl)) (fun _ _ _ h => h) ?_
      refine pz (i := 11) (N := some 30) #[true, true, true, true, true, true, true, true, true, true, true, true, false, false, false, false, false] rfl rfl (any_of HT_.out (by kernel_rfl)) (fun _ _ _ h => h) ?_
      refine one_ (i := 12) (N := some 31) #[true, true, true, true, true, true, true, true, true, true, true, true, true, false, false, false, false] rfl rfl (one_of HT_.out (by kernel_rfl)) (by decide) (fun K hK => ?_)
      refine goes_ Try.func63 (by kernel_rfl) rfl #[.agg #[.int .u64 t185, .int .u64 t186], .bool (!(t185 == 0) || (!(t186 == 0)))] (by rfl) rfl rfl zm ?_
      with_reducible refine (wide_size_signed.calls k t185 t186 (!(t185 == 0) || (!(t186 == 0))) t189 t190 t191 _ A8.out).mono ?_
      rintro e w21 ⟨rfl, hb⟩
      refine ⟨_, rfl, ?_⟩
      replace BK180 := bb BK180 hb
      replace BK181 := bb BK181 hb
      replace BK188 := bb BK188 hb
      replace HB := bs HB hb
      (try clear hb)
      (try clear hb2)
      (try clear hk)
      (try clear hi)
      refine hK.out _ _ ⟨(blk_cell BK188.out 0).trans rfl, (blk_cell BK188.out 1).trans rfl, (blk_cell BK180.out 0).trans rfl, (blk_cell BK180.out 1).trans rfl⟩ (fun hHeld => ?_)
      clear hK K
      refine norm_ (a' := ?_) ?_ ?_
      rotate_left
      · show Act.put _ (some 31) _ = _
        simp only [Act.put, List.setIfInBounds_toArray, List.set_cons_zero, List.set_cons_succ, i64_w, i32_w]
        rfl
      refine pz (i := 13) (N := some 32) #[true, true, true, true, true, true, true, true, true, true, true, true, true, true, false, false, false] rfl rfl (any_of HT_.out (by kernel_rfl)) (fun _ _ _ h => h) ?_
      refine pz (i := 14) (N := some 33) #[true, true, true, true, true, true, true, true, true, true, true, true, true, true, true, false, false] rfl rfl (any_of HT_.out (by kernel_rfl)) (fun _ _ _ h => h) ?_
      refine one_ (i := 15) (N := none) #[true, true, true, true, true, true, true, true, true, true, true, true, true, true, true, true, false] rfl rfl (one_of HT_.out (by kernel_rfl)) (by decide) (fun K hK => ?_)
      have hs22 : w21.cell? ⟨gb181, 0, none⟩ = some (.int .i64 0) := (blk_cell BK181.out 0).trans rfl
      have hfs22 := blk_frozen BK181.out 0
      have hns22_0 := NB180_181.out
      have hns22_2 := NB188_181.out
      have hms22_0 := NB181_180.out
      have hms22_2 := NB181_188.out
      have hs23 : w21.cell? ⟨gb181, 1, none⟩ = some (.int .u64 0) := (blk_cell BK181.out 1).trans rfl
      have hfs23 := blk_frozen BK181.out 1
      have hns23_0 := NB180_181.out
      have hns23_2 := NB188_181.out
      have hms23_0 := NB181_180.out
      have hms23_2 := NB181_188.out
      refine skip_ (w1 := ?_) (by rfl) rfl ?_ ?_
      rotate_left
      · go_simp
        rfl
      refine hK.out _ _ ⟨((cell_far (p := ⟨gb181, _, none⟩) NB188_181.out _).trans (((cell_far (p := ⟨gb181, _, none⟩) NB188_181.out _).trans (hHeld.1)))), ((cell_far (p := ⟨gb181, _, none⟩) NB188_181.out _).trans (((cell_far (p := ⟨gb181, _, none⟩) NB188_181.out _).trans (hHeld.2.1)))), ((cell_far (p := ⟨gb181, _, none⟩) NB180_181.out _).trans (((cell_far (p := ⟨gb181, _, none⟩) NB180_181.out _).trans (hHeld.2.2.1)))), ((cell_far (p := ⟨gb181, _, none⟩) NB180_181.out _).trans (((cell_far (p := ⟨gb181, _, none⟩) NB180_181.out _).trans (hHeld.2.2.2))))⟩ (fun hHeld => ?_)
      clear hK K
      refine pz (i := 16) (N := some 5) #[true, true, true, true, true, true, true, true, true, true, true, true, true, true, true, true, true] rfl rfl (any_of HT_.out (by kernel_rfl)) (fun _ _ _ h => h) ?_
      refine done_ (done_of HT_.out (by kernel_rfl)) ?_
      try go_wp2
      refine bodyPost_ret (results_ct rfl _ _ gb181 35 #[.int .i64 t189, .int .u64 t190] (0, 0) _ rfl (bp BK181) Try.underlying35 rfl (by kernel_rfl)) rfl ?_
      exact ⟨by first | rfl | (simp [errW_none, errW_some] <;> rfl) | (simp [*, errW_none, errW_some] <;> rfl), hq HB⟩
    · rw [if_neg c7] at H
      have c7b0 : ((decide (a0_0 < 0)) != (decide (a1 < 0))) = false := by simpa using c7
      (try (have c7b1 : decide ((decide (a0_0 < 0)) = (decide (a1 < 0))) = true := by simpa using c7))
      (try (have c7b2 : ((decide (a0_0 < 0)) == (decide (a1 < 0))) = true := by simpa using c7))
      clear c7
      replace H := Option.bind_eq_some_iff.mp H
      obtain ⟨⟨t192, t193, t194⟩, A240, H⟩ := H
      replace H : (some (t192, t193, t194)) = some (r1, r2, r3) := H
      have A24 := Aside0.mk A240
      clear A240
      simp only [Option.some.injEq, Prod.mk.injEq] at H
      obtain ⟨rfl, rfl, rfl⟩ := H
      go_enter Try.func43, Try.ntmps43
      try go_wp2_with (first | ((with_reducible refine gate_dst (N := 2) rfl ?_); refine box_event ?hg (N := 2) ?hd (cs := #[.int .i64 a0_0, .int .u64 a0_1]) (t := 35) ?hr ?_; (case hd => rfl); (case hg => rfl); (case hr => first | (go_simp; done) | (go_simp; rfl)); intro gb180 hg w25 hbox hb; have BK180 := Aside0.mk (hbox); have GW180 := ge HB hg; have GE180 := ge HB hg; replace HB := bs HB hb; clear hb hbox hg) | ((with_reducible refine gate_dst (N := 4) rfl ?_); refine box_event ?hg (N := 4) ?hd (cs := #[.int .i64 0, .int .u64 0]) (t := 35) ?hr ?_; (case hd => rfl); (case hg => rfl); (case hr => first | (go_simp; done) | (go_simp; rfl)); intro gb181 hg w26 hbox hb; have BK181 := Aside0.mk (hbox); have GW181 := ge HB hg; have GE181 := ge HB hg; have NB180_181 := nl BK180 hg; have NB181_180 := ng NB180_181; replace BK180 := bb BK180 hb; replace HB := bs HB hb; clear hb hbox hg; have hnb27 := NB180_181.out; have hnc27 := NB181_180.out; obtain ⟨hcz28_0, hcz28_1, hfz28_0, hfz28_1⟩ := cz2 BK180) | ((with_reducible refine gate_callee (f := 60) rfl ?_); refine goesL_ (some 10) rfl rfl Try.func60 (by kernel_rfl) rfl #[.agg #[.int .i64 a0_0, .int .u64 a0_1]] rfl zm ?_; (with_reducible refine (wide_absolute.calls a0_0 a0_1 t182 t183 _ A3.out).mono ?_); rintro e w29 ⟨rfl, hb⟩; refine ⟨_, rfl, ?_⟩; replace BK180 := bb BK180 hb; replace BK181 := bb BK181 hb; replace HB := bs HB hb; (try clear hb); (try clear hb2); (try clear hk); (try clear hi)) | ((with_reducible refine gate_callee (f := 62) rfl ?_); refine goesL_ (some 12) rfl rfl Try.func62 (by kernel_rfl) rfl #[.int .i64 a1] rfl zm ?_; (with_reducible refine (wide_abs.calls a1 t184 _ A4.out).mono ?_); rintro e w' ⟨rfl, ⟨nd, rfl⟩⟩; refine ⟨_, rfl, ?_⟩; (try (rw [drewN_self w29]; generalize hq_ : World.drewN w29 _ = w29; replace BK180 : Aside0 (w29.heap[gb180]? = some (.cells #[.int .i64 a0_0, .int .u64 a0_1] 35 (0, 0))) := ⟨by rw [← hq_]; exact (bq BK180)⟩; replace BK181 : Aside0 (w29.heap[gb181]? = some (.cells #[.int .i64 0, .int .u64 0] 35 (0, 0))) := ⟨by rw [← hq_]; exact (bq BK181)⟩; replace HB : Aside0 (Below w.heap.size w w29) := ⟨by rw [← hq_]; exact (hq HB)⟩; clear hq_))) | ((with_reducible refine gate_callee (f := 61) rfl ?_); refine goesL_ (some 13) rfl rfl Try.func61 (by kernel_rfl) rfl #[.agg #[.int .u64 t182, .int .u64 t183], .int .u64 t184, .int .u64 0] rfl zm ?_; (with_reducible refine (wide_size_times.calls t182 t183 t184 0 t185 t186 true _ A5.out).mono ?_); rintro e w30 ⟨rfl, hb⟩; refine ⟨_, rfl, ?_⟩; replace BK180 := bb BK180 hb; replace BK181 := bb BK181 hb; replace HB := bs HB hb; (try clear hb); (try clear hb2); (try clear hk); (try clear hi)) | ((with_reducible refine gate_dst (N := 6) rfl ?_); refine box_event ?hg (N := 6) ?hd (cs := #[.int .u64 0, .int .u64 0]) (t := 113) ?hr ?_; (case hd => rfl); (case hg => rfl); (case hr => first | (go_simp; done) | (go_simp; rfl)); intro gb188 hg w31 hbox hb; have BK188 := Aside0.mk (hbox); have GW188 := ge HB hg; have GE188 := ge HB hg; have NB180_188 := nl BK180 hg; have NB188_180 := ng NB180_188; have NB181_188 := nl BK181 hg; have NB188_181 := ng NB181_188; replace BK180 := bb BK180 hb; replace BK181 := bb BK181 hb; replace HB := bs HB hb; clear hb hbox hg; have hnb32 := NB188_180.out; have hnc32 := NB180_188.out; have hnb33 := NB188_181.out; have hnc33 := NB181_188.out; obtain ⟨hcz34_0, hcz34_1, hfz34_0, hfz34_1⟩ := cz2 BK188))
      have n0_ : Aside0 (((w31.setCell ⟨gb188, 0, none⟩ (.int .u64 t185)).setCell ⟨gb188, 1, none⟩ (.int .u64 t186)).heap[gb180]? = some (.cells #[.int .i64 a0_0, .int .u64 a0_1] 35 (0, 0))) := ⟨bq BK180⟩
      have n1_ : Aside0 (((w31.setCell ⟨gb188, 0, none⟩ (.int .u64 t185)).setCell ⟨gb188, 1, none⟩ (.int .u64 t186)).heap[gb181]? = some (.cells #[.int .i64 0, .int .u64 0] 35 (0, 0))) := ⟨bq BK181⟩
      have n2_ : Aside0 (((w31.setCell ⟨gb188, 0, none⟩ (.int .u64 t185)).setCell ⟨gb188, 1, none⟩ (.int .u64 t186)).heap[gb188]? = some (.cells #[.int .u64 t185, .int .u64 t186] 113 (0, 0))) := ⟨bp BK188⟩
      have n3_ : Aside0 (Below w.heap.size w ((w31.setCell ⟨gb188, 0, none⟩ (.int .u64 t185)).setCell ⟨gb188, 1, none⟩ (.int .u64 t186))) := ⟨hq HB⟩
      (try clear BK180)
      (try clear BK181)
      (try clear BK188)
      (try clear HB)
      generalize ((w31.setCell ⟨gb188, 0, none⟩ (.int .u64 t185)).setCell ⟨gb188, 1, none⟩ (.int .u64 t186)) = w35 at n0_ n1_ n2_ n3_ ⊢
      have BK180 := n0_
      have BK181 := n1_
      have BK188 := n2_
      have HB := n3_
      clear n0_ n1_ n2_ n3_
      replace BK180 := bd1 BK180
      replace BK181 := bd1 BK181
      replace BK188 := bd1 BK188
      replace HB := hb1 HB
      refine start_ (n := 17) (S := fun w' => w'.cell? ⟨gb188, 0, none⟩ = some (.int .u64 t185) ∧ w'.cell? ⟨gb188, 1, none⟩ = some (.int .u64 t186) ∧ w'.cell? ⟨gb180, 0, none⟩ = some (.int .i64 a0_0) ∧ w'.cell? ⟨gb180, 1, none⟩ = some (.int .u64 a0_1)) (ds := []) #[false, false, false, false, false, false, false, false, false, false, false, false, false, false, false, false, false] (by kernel_rfl) rfl rfl ⟨(blk_cell BK188.out 0).trans rfl, (blk_cell BK188.out 1).trans rfl, (blk_cell BK180.out 0).trans rfl, (blk_cell BK180.out 1).trans rfl⟩ (fun hHeld => ?_); refine with_tabW wide_Scale.tab4 wide_Scale.bits4 (fun HT_ HW_ => ?_)
      generalize w35.drew = w36 at BK180 BK181 BK188 HB hHeld ⊢
      refine pz (i := 1) (N := some 20) #[false, true, false, false, false, false, false, false, false, false, false, false, false, false, false, false, false] rfl rfl (any_of HT_.out (by kernel_rfl)) (fun _ _ _ h => h) ?_
      refine pz (i := 4) (N := some 23) #[false, true, false, false, true, false, false, false, false, false, false, false, false, false, false, false, false] rfl rfl (any_of HT_.out (by kernel_rfl)) (fun _ _ _ h => h) ?_
      refine pz (i := 5) (N := some 24) #[false, true, false, false, true, true, false, false, false, false, false, false, false, false, false, false, false] rfl rfl (any_of HT_.out (by kernel_rfl)) (fun _ _ _ h => h) ?_
      refine tz4 (i := 0) (N := some 19) #[true, true, false, false, true, true, false, false, false, false, false, false, false, false, false, false, false] rfl rfl (take_ofW HT_.out HW_.out (by kernel_rfl)) (fun _ _ _ h => h) hHeld ?_
      refine tz4 (i := 2) (N := some 21) #[true, true, true, false, true, true, false, false, false, false, false, false, false, false, false, false, false] rfl rfl (take_ofW HT_.out HW_.out (by kernel_rfl)) (fun _ _ _ h => h) hHeld ?_
      refine pz (i := 3) (N := some 22) #[true, true, true, true, true, true, false, false, false, false, false, false, false, false, false, false, false] rfl rfl (any_of HT_.out (by kernel_rfl)) (fun _ _ _ h => h) ?_
      refine pz (i := 6) (N := some 25) #[true, true, true, true, true, true, true, false, false, false, false, false, false, false, false, false, false] rfl rfl (any_of HT_.out (by kernel_rfl)) (fun _ _ _ h => h) ?_
      refine pz (i := 7) (N := some 26) #[true, true, true, true, true, true, true, true, false, false, false, false, false, false, false, false, false] rfl rfl (any_of HT_.out (by kernel_rfl)) (fun _ _ _ h => h) ?_
      refine pure_ (i := 8) (N := some 27) (v := undef) (a' := ?_) #[true, true, true, true, true, true, true, true, true, false, false, false, false, false, false, false, false] rfl rfl (any_of HT_.out (by kernel_rfl)) (fun _ _ _ h => h) (Or.inr ⟨by rfl, rfl⟩) ?_ ?_
      rotate_left
      · simp only [Act.put, List.setIfInBounds_toArray, List.set_cons_zero, List.set_cons_succ, i64_w, i32_w]
        rfl
      refine pure_ (i := 9) (N := some 28) (v := undef) (a' := ?_) #[true, true, true, true, true, true, true, true, true, true, false, false, false, false, false, false, false] rfl rfl (any_of HT_.out (by kernel_rfl)) (fun _ _ _ h => h) (Or.inr ⟨by rfl, rfl⟩) ?_ ?_
      rotate_left
      · simp only [Act.put, List.setIfInBounds_toArray, List.set_cons_zero, List.set_cons_succ, i64_w, i32_w]
        rfl
      refine pure_ (i := 10) (N := some 29) (v := undef) (a' := ?_) #[true, true, true, true, true, true, true, true, true, true, true, false, false, false, false, false, false] rfl rfl (any_of HT_.out (by kernel_rfl)) (fun _ _ _ h => h) (Or.inr ⟨by rfl, rfl⟩) ?_ ?_
      rotate_left
      · simp only [Act.put, List.setIfInBounds_toArray, List.set_cons_zero, List.set_cons_succ, i64_w, i32_w]
        rfl
      refine pz (i := 11) (N := some 30) #[true, true, true, true, true, true, true, true, true, true, true, true, false, false, false, false, false] rfl rfl (any_of HT_.out (by kernel_rfl)) (fun _ _ _ h => h) ?_
      refine one_ (i := 12) (N := some 31) #[true, true, true, true, true, true, true, true, true, true, true, true, true, false, false, false, false] rfl rfl (one_of HT_.out (by kernel_rfl)) (by decide) (fun K hK => ?_)
      refine goes_ Try.func63 (by kernel_rfl) rfl #[.agg #[.int .u64 t185, .int .u64 t186], .bool false] (by rfl) rfl rfl zm ?_
      with_reducible refine (wide_size_signed.calls k t185 t186 false t192 t193 t194 _ A24.out).mono ?_
      rintro e w37 ⟨rfl, hb⟩
      refine ⟨_, rfl, ?_⟩
      replace BK180 := bb BK180 hb
      replace BK181 := bb BK181 hb
      replace BK188 := bb BK188 hb
      replace HB := bs HB hb
      (try clear hb)
      (try clear hb2)
      (try clear hk)
      (try clear hi)
      refine hK.out _ _ ⟨(blk_cell BK188.out 0).trans rfl, (blk_cell BK188.out 1).trans rfl, (blk_cell BK180.out 0).trans rfl, (blk_cell BK180.out 1).trans rfl⟩ (fun hHeld => ?_)
      clear hK K
      refine norm_ (a' := ?_) ?_ ?_
      rotate_left
      · show Act.put _ (some 31) _ = _
        simp only [Act.put, List.setIfInBounds_toArray, List.set_cons_zero, List.set_cons_succ, i64_w, i32_w]
        rfl
      refine pz (i := 13) (N := some 32) #[true, true, true, true, true, true, true, true, true, true, true, true, true, true, false, false, false] rfl rfl (any_of HT_.out (by kernel_rfl)) (fun _ _ _ h => h) ?_
      refine pz (i := 14) (N := some 33) #[true, true, true, true, true, true, true, true, true, true, true, true, true, true, true, false, false] rfl rfl (any_of HT_.out (by kernel_rfl)) (fun _ _ _ h => h) ?_
      refine one_ (i := 15) (N := none) #[true, true, true, true, true, true, true, true, true, true, true, true, true, true, true, true, false] rfl rfl (one_of HT_.out (by kernel_rfl)) (by decide) (fun K hK => ?_)
      have hs38 : w37.cell? ⟨gb181, 0, none⟩ = some (.int .i64 0) := (blk_cell BK181.out 0).trans rfl
      have hfs38 := blk_frozen BK181.out 0
      have hns38_0 := NB180_181.out
      have hns38_2 := NB188_181.out
      have hms38_0 := NB181_180.out
      have hms38_2 := NB181_188.out
      have hs39 : w37.cell? ⟨gb181, 1, none⟩ = some (.int .u64 0) := (blk_cell BK181.out 1).trans rfl
      have hfs39 := blk_frozen BK181.out 1
      have hns39_0 := NB180_181.out
      have hns39_2 := NB188_181.out
      have hms39_0 := NB181_180.out
      have hms39_2 := NB181_188.out
      refine skip_ (w1 := ?_) (by rfl) rfl ?_ ?_
      rotate_left
      · go_simp
        rfl
      refine hK.out _ _ ⟨((cell_far (p := ⟨gb181, _, none⟩) NB188_181.out _).trans (((cell_far (p := ⟨gb181, _, none⟩) NB188_181.out _).trans (hHeld.1)))), ((cell_far (p := ⟨gb181, _, none⟩) NB188_181.out _).trans (((cell_far (p := ⟨gb181, _, none⟩) NB188_181.out _).trans (hHeld.2.1)))), ((cell_far (p := ⟨gb181, _, none⟩) NB180_181.out _).trans (((cell_far (p := ⟨gb181, _, none⟩) NB180_181.out _).trans (hHeld.2.2.1)))), ((cell_far (p := ⟨gb181, _, none⟩) NB180_181.out _).trans (((cell_far (p := ⟨gb181, _, none⟩) NB180_181.out _).trans (hHeld.2.2.2))))⟩ (fun hHeld => ?_)
      clear hK K
      refine pz (i := 16) (N := some 5) #[true, true, true, true, true, true, true, true, true, true, true, true, true, true, true, true, true] rfl rfl (any_of HT_.out (by kernel_rfl)) (fun _ _ _ h => h) ?_
      refine done_ (done_of HT_.out (by kernel_rfl)) ?_
      try go_wp2
      refine bodyPost_ret (results_ct rfl _ _ gb181 35 #[.int .i64 t192, .int .u64 t193] (0, 0) _ rfl (bp BK181) Try.underlying35 rfl (by kernel_rfl)) rfl ?_
      exact ⟨by first | rfl | (simp [errW_none, errW_some] <;> rfl) | (simp [*, errW_none, errW_some] <;> rfl), hq HB⟩
  · replace c6 := Bool.eq_false_iff.mpr c6
    subst c6
    have H1 : (some (0, 0, 6)) = some (r1, r2, r3) := by rw [if_neg (show ¬ (false = true) by decide)] at H; exact H
    clear H
    have H := H1
    clear H1
    simp only [Option.some.injEq, Prod.mk.injEq] at H
    obtain ⟨rfl, rfl, rfl⟩ := H
    go_enter Try.func43, Try.ntmps43
    go_wp2_with (first | ((with_reducible refine gate_dst (N := 2) rfl ?_); refine box_event ?hg (N := 2) ?hd (cs := #[.int .i64 a0_0, .int .u64 a0_1]) (t := 35) ?hr ?_; (case hd => rfl); (case hg => rfl); (case hr => first | (go_simp; done) | (go_simp; rfl)); intro gb180 hg w40 hbox hb; have BK180 := Aside0.mk (hbox); have GW180 := ge HB hg; have GE180 := ge HB hg; replace HB := bs HB hb; clear hb hbox hg) | ((with_reducible refine gate_dst (N := 4) rfl ?_); refine box_event ?hg (N := 4) ?hd (cs := #[.int .i64 0, .int .u64 0]) (t := 35) ?hr ?_; (case hd => rfl); (case hg => rfl); (case hr => first | (go_simp; done) | (go_simp; rfl)); intro gb181 hg w41 hbox hb; have BK181 := Aside0.mk (hbox); have GW181 := ge HB hg; have GE181 := ge HB hg; have NB180_181 := nl BK180 hg; have NB181_180 := ng NB180_181; replace BK180 := bb BK180 hb; replace HB := bs HB hb; clear hb hbox hg; have hnb42 := NB180_181.out; have hnc42 := NB181_180.out; obtain ⟨hcz43_0, hcz43_1, hfz43_0, hfz43_1⟩ := cz2 BK180) | ((with_reducible refine gate_callee (f := 60) rfl ?_); refine goesL_ (some 10) rfl rfl Try.func60 (by kernel_rfl) rfl #[.agg #[.int .i64 a0_0, .int .u64 a0_1]] rfl zm ?_; (with_reducible refine (wide_absolute.calls a0_0 a0_1 t182 t183 _ A3.out).mono ?_); rintro e w44 ⟨rfl, hb⟩; refine ⟨_, rfl, ?_⟩; replace BK180 := bb BK180 hb; replace BK181 := bb BK181 hb; replace HB := bs HB hb; (try clear hb); (try clear hb2); (try clear hk); (try clear hi)) | ((with_reducible refine gate_callee (f := 62) rfl ?_); refine goesL_ (some 12) rfl rfl Try.func62 (by kernel_rfl) rfl #[.int .i64 a1] rfl zm ?_; (with_reducible refine (wide_abs.calls a1 t184 _ A4.out).mono ?_); rintro e w' ⟨rfl, ⟨nd, rfl⟩⟩; refine ⟨_, rfl, ?_⟩; (try (rw [drewN_self w44]; generalize hq_ : World.drewN w44 _ = w44; replace BK180 : Aside0 (w44.heap[gb180]? = some (.cells #[.int .i64 a0_0, .int .u64 a0_1] 35 (0, 0))) := ⟨by rw [← hq_]; exact (bq BK180)⟩; replace BK181 : Aside0 (w44.heap[gb181]? = some (.cells #[.int .i64 0, .int .u64 0] 35 (0, 0))) := ⟨by rw [← hq_]; exact (bq BK181)⟩; replace HB : Aside0 (Below w.heap.size w w44) := ⟨by rw [← hq_]; exact (hq HB)⟩; clear hq_))) | ((with_reducible refine gate_callee (f := 61) rfl ?_); refine goesL_ (some 13) rfl rfl Try.func61 (by kernel_rfl) rfl #[.agg #[.int .u64 t182, .int .u64 t183], .int .u64 t184, .int .u64 0] rfl zm ?_; (with_reducible refine (wide_size_times.calls t182 t183 t184 0 t185 t186 false _ A5.out).mono ?_); rintro e w45 ⟨rfl, hb⟩; refine ⟨_, rfl, ?_⟩; replace BK180 := bb BK180 hb; replace BK181 := bb BK181 hb; replace HB := bs HB hb; (try clear hb); (try clear hb2); (try clear hk); (try clear hi)) | ((with_reducible refine gate_dst (N := 6) rfl ?_); refine box_event ?hg (N := 6) ?hd (cs := #[.int .u64 0, .int .u64 0]) (t := 113) ?hr ?_; (case hd => rfl); (case hg => rfl); (case hr => first | (go_simp; done) | (go_simp; rfl)); intro gb188 hg w46 hbox hb; have BK188 := Aside0.mk (hbox); have GW188 := ge HB hg; have GE188 := ge HB hg; have NB180_188 := nl BK180 hg; have NB188_180 := ng NB180_188; have NB181_188 := nl BK181 hg; have NB188_181 := ng NB181_188; replace BK180 := bb BK180 hb; replace BK181 := bb BK181 hb; replace HB := bs HB hb; clear hb hbox hg; have hnb47 := NB188_180.out; have hnc47 := NB180_188.out; have hnb48 := NB188_181.out; have hnc48 := NB181_188.out; obtain ⟨hcz49_0, hcz49_1, hfz49_0, hfz49_1⟩ := cz2 BK188; obtain ⟨hcz50_0, hcz50_1, hfz50_0, hfz50_1⟩ := cz2 BK181))
    refine bodyPost_ret (results_ct rfl _ _ gb181 35 #[.int .i64 0, .int .u64 0] (0, 0) _ rfl (bp BK181) Try.underlying35 rfl (by kernel_rfl)) rfl ?_
    exact ⟨by first | rfl | (simp [errW_none, errW_some] <;> rfl) | (simp [*, errW_none, errW_some] <;> rfl), hq HB⟩

end Go.Proofs.Ytlmabdiodopidaa.P
end
section
set_option linter.unusedVariables false
set_option linter.unusedSimpArgs false
namespace Go.Proofs.Ytlmabdiodopidaa.P
open Go.Proofs.Ytlmabdiodopidaa.G
attribute [local go_sem high] un_not64 un_noti run_add64
open Go.RowKit Go.Proofs.YtlmabdiodopidaaW.PrintWords Go.Proofs.YtlmabdiodopidaaW.PrintLast Go.Proofs.YtlmabdiodopidaaW.PrintMore
attribute [local go_sem] max2_int min2_int max_two min_two max_three min_three max_four min_four   -- for this text's walks alone
set_option linter.unusedVariables false
set_option linter.unusedSimpArgs false

/-! ### wide_Mul: function 44 -/
def wide_Mul.f (a0 : Int) (a1 : Int) : Option (Int × Int) := (wide_abs.f a0).bind fun t196 => ((wide_abs.f a1).bind fun t197 => ((bits_Mul64.f t196 t197).bind fun bt198 => (if ((decide (a0 < 0)) != (decide (a1 < 0))) = true then ((wide_negate.f (wrap64 (bt198.1)) bt198.2).bind fun bt201 => (some (bt201.1, bt201.2))) else (some (wrap64 (bt198.1), bt198.2)))))
set_option maxHeartbeats 8000000 in
set_option maxRecDepth 100000 in
theorem wide_Mul.calls (a0 : Int) (a1 : Int) (r1 : Int) (r2 : Int) (w : World) (h : wide_Mul.f a0 a1 = some (r1, r2)) :
    Calls Try.prog 44 #[.int .i64 a0, .int .i64 a1] w fun e w' => e = .returned (.agg #[.int .i64 r1, .int .u64 r2]) ∧ Below w.heap.size w w' := by
  have hu35 := Try.underlying35
  have HB := Aside0.mk (Below.refl w.heap.size w)
  have H : ((wide_abs.f a0).bind fun t196 => ((wide_abs.f a1).bind fun t197 => ((bits_Mul64.f t196 t197).bind fun bt198 => (if ((decide (a0 < 0)) != (decide (a1 < 0))) = true then ((wide_negate.f (wrap64 (bt198.1)) bt198.2).bind fun bt201 => (some (bt201.1, bt201.2))) else (some (wrap64 (bt198.1), bt198.2)))))) = some (r1, r2) := h
  clear h
  replace H := Option.bind_eq_some_iff.mp H
  obtain ⟨t196, A30, H⟩ := H
  replace H : ((wide_abs.f a1).bind fun t197 => ((bits_Mul64.f t196 t197).bind fun bt198 => (if ((decide (a0 < 0)) != (decide (a1 < 0))) = true then ((wide_negate.f (wrap64 (bt198.1)) bt198.2).bind fun bt201 => (some (bt201.1, bt201.2))) else (some (wrap64 (bt198.1), bt198.2))))) = some (r1, r2) := H
  have A3 := Aside0.mk A30
  clear A30
  replace H := Option.bind_eq_some_iff.mp H
  obtain ⟨t197, A40, H⟩ := H
  replace H : ((bits_Mul64.f t196 t197).bind fun bt198 => (if ((decide (a0 < 0)) != (decide (a1 < 0))) = true then ((wide_negate.f (wrap64 (bt198.1)) bt198.2).bind fun bt201 => (some (bt201.1, bt201.2))) else (some (wrap64 (bt198.1), bt198.2)))) = some (r1, r2) := H
  have A4 := Aside0.mk A40
  clear A40
  replace H := Option.bind_eq_some_iff.mp H
  obtain ⟨⟨t198, t199⟩, A50, H⟩ := H
  replace H : (if ((decide (a0 < 0)) != (decide (a1 < 0))) = true then ((wide_negate.f (wrap64 (t198)) t199).bind fun bt201 => (some (bt201.1, bt201.2))) else (some (wrap64 (t198), t199))) = some (r1, r2) := H
  have A5 := Aside0.mk A50
  clear A50
  by_cases c6 : ((decide (a0 < 0)) != (decide (a1 < 0))) = true
  · rw [if_pos c6] at H
    have c6b0 : ((decide (a0 < 0)) != (decide (a1 < 0))) = true := c6
    (try (have c6b1 : decide ((decide (a0 < 0)) = (decide (a1 < 0))) = false := by simpa using c6))
    (try (have c6b2 : ((decide (a0 < 0)) == (decide (a1 < 0))) = false := by simpa using c6))
    (try (have c6b3 : ¬ ((decide (a0 < 0)) = (decide (a1 < 0))) := by simpa using c6))
    clear c6
    replace H := Option.bind_eq_some_iff.mp H
    obtain ⟨⟨t201, t202⟩, A70, H⟩ := H
    replace H : (some (t201, t202)) = some (r1, r2) := H
    have A7 := Aside0.mk A70
    clear A70
    simp only [Option.some.injEq, Prod.mk.injEq] at H
    obtain ⟨rfl, rfl⟩ := H
    go_enter Try.func44, Try.ntmps44
    go_wp2_with (first | ((with_reducible refine gate_dst (N := 4) rfl ?_); refine box_event ?hg (N := 4) ?hd (cs := #[.int .i64 0, .int .u64 0]) (t := 35) ?hr ?_; (case hd => rfl); (case hg => rfl); (case hr => first | (go_simp; done) | (go_simp; rfl)); intro gb195 hg w8 hbox hb; have BK195 := Aside0.mk (hbox); have GW195 := ge HB hg; have GE195 := ge HB hg; replace HB := bs HB hb; clear hb hbox hg) | ((with_reducible refine gate_callee (f := 62) rfl ?_); refine goesL_ (some 10) rfl rfl Try.func62 (by kernel_rfl) rfl #[.int .i64 a0] rfl zm ?_; (with_reducible refine (wide_abs.calls a0 t196 _ A3.out).mono ?_); rintro e w' ⟨rfl, ⟨nd, rfl⟩⟩; refine ⟨_, rfl, ?_⟩; (try (rw [drewN_self w8]; generalize hq_ : World.drewN w8 _ = w8; replace BK195 : Aside0 (w8.heap[gb195]? = some (.cells #[.int .i64 0, .int .u64 0] 35 (0, 0))) := ⟨by rw [← hq_]; exact (bq BK195)⟩; replace HB : Aside0 (Below w.heap.size w w8) := ⟨by rw [← hq_]; exact (hq HB)⟩; clear hq_))) | ((with_reducible refine gate_callee (f := 62) rfl ?_); refine goesL_ (some 12) rfl rfl Try.func62 (by kernel_rfl) rfl #[.int .i64 a1] rfl zm ?_; (with_reducible refine (wide_abs.calls a1 t197 _ A4.out).mono ?_); rintro e w' ⟨rfl, ⟨nd, rfl⟩⟩; refine ⟨_, rfl, ?_⟩; (try (rw [drewN_self w8]; generalize hq_ : World.drewN w8 _ = w8; replace BK195 : Aside0 (w8.heap[gb195]? = some (.cells #[.int .i64 0, .int .u64 0] 35 (0, 0))) := ⟨by rw [← hq_]; exact (bq BK195)⟩; replace HB : Aside0 (Below w.heap.size w w8) := ⟨by rw [← hq_]; exact (hq HB)⟩; clear hq_))) | ((with_reducible refine gate_callee (f := 64) rfl ?_); refine goesL_ (some 13) rfl rfl Try.func64 (by kernel_rfl) rfl #[.int .u64 t196, .int .u64 t197] rfl zm ?_; (with_reducible refine (bits_Mul64.calls t196 t197 t198 t199 _ A5.out).mono ?_); rintro e w' ⟨rfl, ⟨nd, rfl⟩⟩; refine ⟨_, rfl, ?_⟩; (try (rw [drewN_self w8]; generalize hq_ : World.drewN w8 _ = w8; replace BK195 : Aside0 (w8.heap[gb195]? = some (.cells #[.int .i64 0, .int .u64 0] 35 (0, 0))) := ⟨by rw [← hq_]; exact (bq BK195)⟩; replace HB : Aside0 (Below w.heap.size w w8) := ⟨by rw [← hq_]; exact (hq HB)⟩; clear hq_))) | ((with_reducible refine gate_dst (N := 7) rfl ?_); refine box_event ?hg (N := 7) ?hd (cs := #[.int .i64 0, .int .u64 0]) (t := 35) ?hr ?_; (case hd => rfl); (case hg => rfl); (case hr => first | (go_simp; done) | (go_simp; rfl)); intro gb200 hg w9 hbox hb; have BK200 := Aside0.mk (hbox); have GW200 := ge HB hg; have GE200 := ge HB hg; have NB195_200 := nl BK195 hg; have NB200_195 := ng NB195_200; replace BK195 := bb BK195 hb; replace HB := bs HB hb; clear hb hbox hg; have hnb10 := NB200_195.out; have hnc10 := NB195_200.out; obtain ⟨hcz11_0, hcz11_1, hfz11_0, hfz11_1⟩ := cz2 BK200) | ((with_reducible refine gate_callee (f := 65) rfl ?_); refine goesL_ (some 26) rfl rfl Try.func65 (by kernel_rfl) rfl #[.agg #[.int .i64 (wrap64 (t198)), .int .u64 t199]] rfl zm ?_; (with_reducible refine (wide_negate.calls (wrap64 (t198)) t199 t201 t202 _ A7.out).mono ?_); rintro e w12 ⟨rfl, hb⟩; refine ⟨_, rfl, ?_⟩; replace BK195 := bb BK195 hb; replace BK200 := bpb BK200 hb #[.int .i64 (wrap64 (t198)), .int .u64 t199]; replace HB := bs HB hb; (try clear hb); (try clear hb2); (try clear hk); (try clear hi); obtain ⟨hcz13_0, hcz13_1, hfz13_0, hfz13_1⟩ := cz2 BK200; obtain ⟨hcz14_0, hcz14_1, hfz14_0, hfz14_1⟩ := cz2 BK195))
    refine bodyPost_ret (results_cell_row rfl _ _ gb195 35 #[.int .i64 t201, .int .u64 t202] (0, 0) _ rfl (bp BK195) Try.underlying35 rfl (by kernel_rfl)) rfl ?_
    exact ⟨by first | rfl | (simp [errW_none, errW_some] <;> rfl) | (simp [*, errW_none, errW_some] <;> rfl), hq HB⟩
  · rw [if_neg c6] at H
    have c6b0 : ((decide (a0 < 0)) != (decide (a1 < 0))) = false := by simpa using c6
    (try (have c6b1 : decide ((decide (a0 < 0)) = (decide (a1 < 0))) = true := by simpa using c6))
    (try (have c6b2 : ((decide (a0 < 0)) == (decide (a1 < 0))) = true := by simpa using c6))
    clear c6
    simp only [Option.some.injEq, Prod.mk.injEq] at H
    obtain ⟨rfl, rfl⟩ := H
    go_enter Try.func44, Try.ntmps44
    go_wp2_with (first | ((with_reducible refine gate_dst (N := 4) rfl ?_); refine box_event ?hg (N := 4) ?hd (cs := #[.int .i64 0, .int .u64 0]) (t := 35) ?hr ?_; (case hd => rfl); (case hg => rfl); (case hr => first | (go_simp; done) | (go_simp; rfl)); intro gb195 hg w15 hbox hb; have BK195 := Aside0.mk (hbox); have GW195 := ge HB hg; have GE195 := ge HB hg; replace HB := bs HB hb; clear hb hbox hg) | ((with_reducible refine gate_callee (f := 62) rfl ?_); refine goesL_ (some 10) rfl rfl Try.func62 (by kernel_rfl) rfl #[.int .i64 a0] rfl zm ?_; (with_reducible refine (wide_abs.calls a0 t196 _ A3.out).mono ?_); rintro e w' ⟨rfl, ⟨nd, rfl⟩⟩; refine ⟨_, rfl, ?_⟩; (try (rw [drewN_self w15]; generalize hq_ : World.drewN w15 _ = w15; replace BK195 : Aside0 (w15.heap[gb195]? = some (.cells #[.int .i64 0, .int .u64 0] 35 (0, 0))) := ⟨by rw [← hq_]; exact (bq BK195)⟩; replace HB : Aside0 (Below w.heap.size w w15) := ⟨by rw [← hq_]; exact (hq HB)⟩; clear hq_))) | ((with_reducible refine gate_callee (f := 62) rfl ?_); refine goesL_ (some 12) rfl rfl Try.func62 (by kernel_rfl) rfl #[.int .i64 a1] rfl zm ?_; (with_reducible refine (wide_abs.calls a1 t197 _ A4.out).mono ?_); rintro e w' ⟨rfl, ⟨nd, rfl⟩⟩; refine ⟨_, rfl, ?_⟩; (try (rw [drewN_self w15]; generalize hq_ : World.drewN w15 _ = w15; replace BK195 : Aside0 (w15.heap[gb195]? = some (.cells #[.int .i64 0, .int .u64 0] 35 (0, 0))) := ⟨by rw [← hq_]; exact (bq BK195)⟩; replace HB : Aside0 (Below w.heap.size w w15) := ⟨by rw [← hq_]; exact (hq HB)⟩; clear hq_))) | ((with_reducible refine gate_callee (f := 64) rfl ?_); refine goesL_ (some 13) rfl rfl Try.func64 (by kernel_rfl) rfl #[.int .u64 t196, .int .u64 t197] rfl zm ?_; (with_reducible refine (bits_Mul64.calls t196 t197 t198 t199 _ A5.out).mono ?_); rintro e w' ⟨rfl, ⟨nd, rfl⟩⟩; refine ⟨_, rfl, ?_⟩; (try (rw [drewN_self w15]; generalize hq_ : World.drewN w15 _ = w15; replace BK195 : Aside0 (w15.heap[gb195]? = some (.cells #[.int .i64 0, .int .u64 0] 35 (0, 0))) := ⟨by rw [← hq_]; exact (bq BK195)⟩; replace HB : Aside0 (Below w.heap.size w w15) := ⟨by rw [← hq_]; exact (hq HB)⟩; clear hq_))) | ((with_reducible refine gate_dst (N := 7) rfl ?_); refine box_event ?hg (N := 7) ?hd (cs := #[.int .i64 0, .int .u64 0]) (t := 35) ?hr ?_; (case hd => rfl); (case hg => rfl); (case hr => first | (go_simp; done) | (go_simp; rfl)); intro gb200 hg w16 hbox hb; have BK200 := Aside0.mk (hbox); have GW200 := ge HB hg; have GE200 := ge HB hg; have NB195_200 := nl BK195 hg; have NB200_195 := ng NB195_200; replace BK195 := bb BK195 hb; replace HB := bs HB hb; clear hb hbox hg; have hnb17 := NB200_195.out; have hnc17 := NB195_200.out; obtain ⟨hcz18_0, hcz18_1, hfz18_0, hfz18_1⟩ := cz2 BK200; obtain ⟨hcz19_0, hcz19_1, hfz19_0, hfz19_1⟩ := cz2 BK195))
    refine bodyPost_ret (results_cell_row rfl _ _ gb195 35 #[.int .i64 (wrap64 (t198)), .int .u64 t199] (0, 0) _ rfl (bp BK195) Try.underlying35 rfl (by kernel_rfl)) rfl ?_
    exact ⟨by first | rfl | (simp [errW_none, errW_some] <;> rfl) | (simp [*, errW_none, errW_some] <;> rfl), hq HB⟩

end Go.Proofs.Ytlmabdiodopidaa.P
end
section
set_option linter.unusedVariables false
set_option linter.unusedSimpArgs false
namespace Go.Proofs.Ytlmabdiodopidaa.P
open Go.Proofs.Ytlmabdiodopidaa.G
attribute [local go_sem high] un_not64 un_noti run_add64
open Go.RowKit Go.Proofs.YtlmabdiodopidaaW.PrintWords Go.Proofs.YtlmabdiodopidaaW.PrintLast Go.Proofs.YtlmabdiodopidaaW.PrintMore
attribute [local go_sem] max2_int min2_int max_two min_two max_three min_three max_four min_four   -- for this text's walks alone
set_option linter.unusedVariables false
set_option linter.unusedSimpArgs false

/-! ### tier_Grains: function 24 -/
mutual
def tier_Grains.j0 : Nat → List (S43) → Int → Bool → Option (Int × Int × Int)
  | 0, _, _, _ => none
  | k + 1, x0, x1, x20 => if x20 = true then (some (0, 0, 1)) else (tier_Grains.l0 k x1 x0 (x0.length : Int) 0 0 0)
def tier_Grains.l0 : Nat → Int → List (S43) → Int → Int → Int → Int → Option (Int × Int × Int)
  | 0, _, _, _, _, _, _ => none
  | k + 1, x1, x22, x23, x24, x205000, x205001 => if x24 < x23 then (if 0 ≤ x24 then (if x24 < (x22.length : Int) then (if ((rd_T43 x22 x24).f0) < 0 then (tier_Grains.j2 k x1 x22 x23 x24 true x205000 x205001 ((rd_T43 x22 x24).f0) ((rd_T43 x22 x24).f1)) else (if ((rd_T43 x22 x24).f1) < 0 then (tier_Grains.j2 k x1 x22 x23 x24 true x205000 x205001 ((rd_T43 x22 x24).f0) ((rd_T43 x22 x24).f1)) else (tier_Grains.j2 k x1 x22 x23 x24 (decide (((rd_T43 x22 x24).f1) > 1000000)) x205000 x205001 ((rd_T43 x22 x24).f0) ((rd_T43 x22 x24).f1)))) else (none)) else (none)) else (some (x205000, x205001, 0))
def tier_Grains.j2 : Nat → Int → List (S43) → Int → Int → Bool → Int → Int → Int → Int → Option (Int × Int × Int)
  | 0, _, _, _, _, _, _, _, _, _ => none
  | k + 1, x1, x22, x23, x24, x40, x205000, x205001, x207000, x207001 => if x40 = true then (some (0, 0, 1)) else ((wide_Mul.f x207000 x207001).bind fun bt207 => ((wide_Scale.f k bt207.1 bt207.2 x1).bind fun bt209 => ((wide_Add.f x205000 x205001 bt209.1 bt209.2.1).bind fun bt213 => (tier_Grains.l0 k x1 x22 x23 (wrap64 (x24 + 1)) bt213.1 bt213.2.1))))
end
def tier_Grains.f (k : Nat) (l0 : List (S43)) (a1 : Int) : Option (Int × Int × Int) := if (l0.length : Int) > 6 then (some (0, 0, 5)) else (if a1 < 0 then (tier_Grains.j0 k l0 a1 true) else (tier_Grains.j0 k l0 a1 (decide (a1 > 6412320000))))
theorem tier_Grains.mono_l : ∀ k, (∀ y0 y1 y2, LeO (tier_Grains.j0 k y0 y1 y2) (tier_Grains.j0 (k + 1) y0 y1 y2)) ∧ (∀ y0 y1 y2 y3 y4 y5, LeO (tier_Grains.l0 k y0 y1 y2 y3 y4 y5) (tier_Grains.l0 (k + 1) y0 y1 y2 y3 y4 y5)) ∧ (∀ y0 y1 y2 y3 y4 y5 y6 y7 y8, LeO (tier_Grains.j2 k y0 y1 y2 y3 y4 y5 y6 y7 y8) (tier_Grains.j2 (k + 1) y0 y1 y2 y3 y4 y5 y6 y7 y8))
  | 0 => ⟨fun _ _ _ r h => by simp [tier_Grains.j0] at h, fun _ _ _ _ _ _ r h => by simp [tier_Grains.l0] at h, fun _ _ _ _ _ _ _ _ _ r h => by simp [tier_Grains.j2] at h⟩
  | k + 1 => by
    obtain ⟨ih0, ih1, ih2⟩ := tier_Grains.mono_l k
    refine ⟨?_, ?_, ?_⟩
    · intro y0 y1 y2
      unfold tier_Grains.j0
      repeat' first
      | (with_reducible exact ih0 _ _ _)
      | (with_reducible exact ih1 _ _ _ _ _ _)
      | (with_reducible exact ih2 _ _ _ _ _ _ _ _ _)
      | (with_reducible exact wide_Scale.mono _ _ _ _)
      | (with_reducible exact LeO.refl _)
      | (with_reducible exact LeO.none _)
      | (with_reducible refine LeO.ite ?_ ?_)
      | (with_reducible refine LeO.bind ?_ (fun _ => ?_))
      | exact ih0 _ _ _
      | exact ih1 _ _ _ _ _ _
      | exact ih2 _ _ _ _ _ _ _ _ _
      | exact wide_Scale.mono _ _ _ _
      | exact LeO.none _
      | refine LeO.ite ?_ ?_
      | refine LeO.bind ?_ (fun _ => ?_)
    · intro y0 y1 y2 y3 y4 y5
      unfold tier_Grains.l0
      repeat' first
      | (with_reducible exact ih0 _ _ _)
      | (with_reducible exact ih1 _ _ _ _ _ _)
      | (with_reducible exact ih2 _ _ _ _ _ _ _ _ _)
      | (with_reducible exact wide_Scale.mono _ _ _ _)
      | (with_reducible exact LeO.refl _)
      | (with_reducible exact LeO.none _)
      | (with_reducible refine LeO.ite ?_ ?_)
      | (with_reducible refine LeO.bind ?_ (fun _ => ?_))
      | exact ih0 _ _ _
      | exact ih1 _ _ _ _ _ _
      | exact ih2 _ _ _ _ _ _ _ _ _
      | exact wide_Scale.mono _ _ _ _
      | exact LeO.none _
      | refine LeO.ite ?_ ?_
      | refine LeO.bind ?_ (fun _ => ?_)
    · intro y0 y1 y2 y3 y4 y5 y6 y7 y8
      unfold tier_Grains.j2
      repeat' first
      | (with_reducible exact ih0 _ _ _)
      | (with_reducible exact ih1 _ _ _ _ _ _)
      | (with_reducible exact ih2 _ _ _ _ _ _ _ _ _)
      | (with_reducible exact wide_Scale.mono _ _ _ _)
      | (with_reducible exact LeO.refl _)
      | (with_reducible exact LeO.none _)
      | (with_reducible refine LeO.ite ?_ ?_)
      | (with_reducible refine LeO.bind ?_ (fun _ => ?_))
      | exact ih0 _ _ _
      | exact ih1 _ _ _ _ _ _
      | exact ih2 _ _ _ _ _ _ _ _ _
      | exact wide_Scale.mono _ _ _ _
      | exact LeO.none _
      | refine LeO.ite ?_ ?_
      | refine LeO.bind ?_ (fun _ => ?_)
theorem tier_Grains.mono : ∀ a0 a1 k, LeO (tier_Grains.f k a0 a1) (tier_Grains.f (k + 1) a0 a1) := by
  intro a0 a1 k
  obtain ⟨ih0, ih1, ih2⟩ := tier_Grains.mono_l k
  unfold tier_Grains.f
  repeat' first
      | (with_reducible exact ih0 _ _ _)
      | (with_reducible exact ih1 _ _ _ _ _ _)
      | (with_reducible exact ih2 _ _ _ _ _ _ _ _ _)
      | (with_reducible exact wide_Scale.mono _ _ _ _)
      | (with_reducible exact LeO.refl _)
      | (with_reducible exact LeO.none _)
      | (with_reducible refine LeO.ite ?_ ?_)
      | (with_reducible refine LeO.bind ?_ (fun _ => ?_))
      | exact ih0 _ _ _
      | exact ih1 _ _ _ _ _ _
      | exact ih2 _ _ _ _ _ _ _ _ _
      | exact wide_Scale.mono _ _ _ _
      | exact LeO.none _
      | refine LeO.ite ?_ ?_
      | refine LeO.bind ?_ (fun _ => ?_)
set_option maxHeartbeats 8000000 in
set_option maxRecDepth 100000 in
theorem tier_Grains.calls (k : Nat) (A0 : Option Addr) (c0 : Nat) (l0 : List (S43)) (a1 : Int) (r1 : Int) (r2 : Int) (r3 : Int) (w : World) (hr0 : Kd.C k43 w A0 l0.length l0) (hc0 : l0.length ≤ c0) (h : tier_Grains.f k l0 a1 = some (r1, r2, r3)) :
    Calls Try.prog 24 #[.slice A0 l0.length c0, .int .i64 a1] w fun e w' => e = .returned (.tuple #[.agg #[.int .i64 r1, .int .u64 r2], .int .i64 r3]) ∧ Below w.heap.size w w' := by
  have hu35 := Try.underlying35
  have hu43 := Try.underlying43
  have HR0 := Aside0.mk hr0
  have HC0 := Aside0.mk hc0
  clear hr0 hc0
  have HB := Aside0.mk (Below.refl w.heap.size w)
  have H : (if (l0.length : Int) > 6 then (some (0, 0, 5)) else (if a1 < 0 then (tier_Grains.j0 k l0 a1 true) else (tier_Grains.j0 k l0 a1 (decide (a1 > 6412320000))))) = some (r1, r2, r3) := h
  clear h
  by_cases c3 : (l0.length : Int) > 6
  · rw [if_pos c3] at H
    have c3b0 : decide (6 < (l0.length : Int)) = true := decide_eq_true c3
    have c3b1 : decide (6 < l0.length) = true := decide_eq_true (by omega)
    clear c3
    simp only [Option.some.injEq, Prod.mk.injEq] at H
    obtain ⟨rfl, rfl, rfl⟩ := H
    go_enter Try.func24, Try.ntmps24
    go_wp2_with (first | ((with_reducible refine gate_dst (N := 4) rfl ?_); refine box_event ?hg (N := 4) ?hd (cs := #[.int .i64 0, .int .u64 0]) (t := 35) ?hr ?_; (case hd => rfl); (case hg => rfl); (case hr => first | (go_simp; done) | (go_simp; rfl)); intro gb203 hg w4 hbox hb; have BK203 := Aside0.mk (hbox); have GW203 := ge HB hg; have GE203 := ge HB hg; replace HB := bs HB hb; clear hb hbox hg; obtain ⟨hcz5_0, hcz5_1, hfz5_0, hfz5_1⟩ := cz2 BK203))
    refine bodyPost_ret (results_ct rfl _ _ gb203 35 #[.int .i64 0, .int .u64 0] (0, 0) _ rfl (bp BK203) Try.underlying35 rfl (by kernel_rfl)) rfl ?_
    exact ⟨by first | rfl | (simp [errW_none, errW_some] <;> rfl) | (simp [*, errW_none, errW_some] <;> rfl), hq HB⟩
  · rw [if_neg c3] at H
    have c3b0 : decide (6 < (l0.length : Int)) = false := decide_eq_false c3
    have c3b1 : decide (6 < l0.length) = false := decide_eq_false (by omega)
    clear c3
    have HC6 := Aside0.mk H
    clear H
    go_enter Try.func24, Try.ntmps24
    go_upto_region 3 with (first | ((with_reducible refine gate_dst (N := 4) rfl ?_); refine box_event ?hg (N := 4) ?hd (cs := #[.int .i64 0, .int .u64 0]) (t := 35) ?hr ?_; (case hd => rfl); (case hg => rfl); (case hr => first | (go_simp; done) | (go_simp; rfl)); intro gb203 hg w7 hbox hb; have BK203 := Aside0.mk (hbox); have GW203 := ge HB hg; have GE203 := ge HB hg; replace HB := bs HB hb; clear hb hbox hg))
    (try simp only [Act.put, List.setIfInBounds_toArray, List.set_cons_zero, List.set_cons_succ])
    go_cut [20] (fun v20 wc => ∃ (kq : Nat) (x20_5 : Bool), v20 = .bool x20_5 ∧ Aside0 (tier_Grains.j0 kq l0 a1 x20_5 = some (r1, r2, r3)) ∧ Aside0 (kq ≤ k) ∧ Aside0 (wc.heap[gb203]? = some (.cells #[.int .i64 0, .int .u64 0] 35 (0, 0))) ∧ Aside0 (Below w.heap.size w wc))
    case first =>
      have H := HC6.out
      clear HC6
      by_cases c8 : a1 < 0
      · rw [if_pos c8] at H
        have c8b0 : decide (a1 < 0) = true := decide_eq_true c8
        clear c8
        (first | rw [c8b0] | (simp only [i64_w, i32_w]; rw [c8b0]) | skip)
        have H' := Aside0.mk H
        clear H
        go_wp2
        go_meet
        case rel => exact ⟨_, (true), (by first | rfl | (simp; done) | (simp [*]; done)), H', ⟨by first | omega | exact Nat.le_refl _⟩, ⟨bq BK203⟩, ⟨hq HB⟩⟩
      · rw [if_neg c8] at H
        have c8b0 : decide (a1 < 0) = false := decide_eq_false c8
        clear c8
        (first | rw [c8b0] | (simp only [i64_w, i32_w]; rw [c8b0]) | skip)
        have H' := Aside0.mk H
        clear H
        go_wp2
        go_meet
        case rel => exact ⟨_, (decide (a1 > 6412320000)), (by first | rfl | (simp; done) | (simp [*]; done)), H', ⟨by first | omega | exact Nat.le_refl _⟩, ⟨bq BK203⟩, ⟨hq HB⟩⟩
    case rest =>
      clear HC6
      try clear c2
      try clear p2
      try clear c3
      try clear c3b0
      try clear c3b1
      try clear c8
      try clear c8b0
      try clear hcz5_0
      try clear hcz5_1
      try clear hfz5_0
      try clear hfz5_1
      obtain ⟨kq, x20_5, rfl, HA, HJ5, BK203, HB⟩ := hcut
      cases kq with
      | zero => exact absurd HA.out (by simp [tier_Grains.j0])
      | succ kj5 =>
        have H := HA.out
        clear HA
        simp only [tier_Grains.j0] at H
        by_cases c9 : x20_5 = true
        · subst c9
          have H1 : (some (0, 0, 1)) = some (r1, r2, r3) := by rw [if_pos rfl] at H; exact H
          clear H
          have H := H1
          clear H1
          simp only [Option.some.injEq, Prod.mk.injEq] at H
          obtain ⟨rfl, rfl, rfl⟩ := H
          obtain ⟨hcz10_0, hcz10_1, hfz10_0, hfz10_1⟩ := cz2 BK203
          go_wp2
          refine bodyPost_ret (results_ct rfl _ _ gb203 35 #[.int .i64 0, .int .u64 0] (0, 0) _ rfl (bp BK203) Try.underlying35 rfl (by kernel_rfl)) rfl ?_
          exact ⟨by first | rfl | (simp [errW_none, errW_some] <;> rfl) | (simp [*, errW_none, errW_some] <;> rfl), hq HB⟩
        · replace c9 := Bool.eq_false_iff.mpr c9
          subst c9
          have H1 : (tier_Grains.l0 kj5 a1 l0 (l0.length : Int) 0 0 0) = some (r1, r2, r3) := by rw [if_neg (show ¬ (false = true) by decide)] at H; exact H
          clear H
          have H := H1
          clear H1
          have H' := Aside0.mk H
          clear H
          go_wp2_with (first | ((with_reducible refine gate_dst (N := 6) rfl ?_); refine box_event ?hg (N := 6) ?hd (cs := #[.int .i64 0, .int .u64 0]) (t := 35) ?hr ?_; (case hd => rfl); (case hg => rfl); (case hr => first | (go_simp; done) | (go_simp; rfl)); intro gb204 hg w11 hbox hb; have BK204 := Aside0.mk (hbox); have GW204 := ge HB hg; have GE204 := ge HB hg; have NB203_204 := nl BK203 hg; have NB204_203 := ng NB203_204; replace BK203 := bb BK203 hb; replace HB := bs HB hb; clear hb hbox hg))
          go_loopg [24] kj5 (fun kq v24 w' => ∃ (x24_2 : Int) (x204000_2 : Int) (x204001_2 : Int) (x205000_2 : Int) (x205001_2 : Int), v24 = .int .i64 x24_2 ∧ Aside0 (tier_Grains.l0 kq a1 l0 (l0.length : Int) x24_2 x205000_2 x205001_2 = some (r1, r2, r3)) ∧ Aside0 (kq ≤ kj5) ∧ Aside0 (w'.heap[gb203]? = some (.cells #[.int .i64 x204000_2, .int .u64 x204001_2] 35 (0, 0))) ∧ Aside0 (w'.heap[gb204]? = some (.cells #[.int .i64 x205000_2, .int .u64 x205001_2] 35 (0, 0))) ∧ Aside0 (Below w.heap.size w w'))
          case atStart => exact ⟨(0), (0), (0), (0), (0), (by first | rfl | (simp; done) | (simp [*]; done)), H', ⟨Nat.le_refl _⟩, ⟨bq BK203⟩, ⟨bq BK204⟩, ⟨hq HB⟩⟩
          case round =>
            clear H'
            try clear c2
            try clear p2
            try clear c3
            try clear c3b0
            try clear c3b1
            try clear c8
            try clear c8b0
            try clear c9
            try clear hcz10_0
            try clear hcz10_1
            try clear hcz5_0
            try clear hcz5_1
            try clear hfz10_0
            try clear hfz10_1
            try clear hfz5_0
            try clear hfz5_1
            try clear p2
            obtain ⟨x24_2, x204000_2, x204001_2, x205000_2, x205001_2, rfl, HA, HK2, BK203, BK204, HB⟩ := hrel
            cases gk with
            | zero => exact absurd HA.out (by simp [tier_Grains.l0])
            | succ k2 =>
              have H := HA.out
              clear HA
              simp only [tier_Grains.l0] at H
              by_cases c12 : x24_2 < (l0.length : Int)
              · rw [if_pos c12] at H
                have c12b0 : decide (x24_2 < (l0.length : Int)) = true := decide_eq_true c12
                clear c12
                by_cases c13 : 0 ≤ x24_2
                · rw [if_pos c13] at H
                  have c13b0 : decide (0 ≤ x24_2) = true := decide_eq_true c13
                  clear c13
                  by_cases c14 : x24_2 < (l0.length : Int)
                  · rw [if_pos c14] at H
                    have c14b0 : decide (x24_2 < (l0.length : Int)) = true := decide_eq_true c14
                    clear c14
                    have HC15 := Aside0.mk H
                    clear H
                    have p205 : 0 ≤ (x24_2 : Int) := of_decide_eq_true (by first | (with_reducible assumption) | assumption)
                    have q205 : x24_2 < (l0.length : Int) := of_decide_eq_true (by first | (with_reducible assumption) | assumption)
                    obtain ⟨ad205, e205, hx205_0, hx205_1⟩ := at_T43 HR0.out x24_2 p205 q205
                    cases e205
                    replace hx205_0 := (HB.out.cell (World.block_lt_of_cell? w _ hx205_0)).trans hx205_0
                    replace hx205_1 := (HB.out.cell (World.block_lt_of_cell? w _ hx205_1)).trans hx205_1
                    replace p205 := eq_true p205
                    replace q205 := eq_true q205
                    go_upto_region 9 with (first | ((with_reducible refine gate_dst (N := 8) rfl ?_); refine box_event ?hg (N := 8) ?hd (cs := #[.int .i64 0, .int .i64 0]) (t := 43) ?hr ?_; (case hd => rfl); (case hg => rfl); (case hr => first | (go_simp; done) | (go_simp; rfl)); intro gb206 hg w16 hbox hb; have BK206 := Aside0.mk (hbox); have GW206 := ge HB hg; have GE206 := ge HB hg; have NB203_206 := nl BK203 hg; have NB206_203 := ng NB203_206; have NB204_206 := nl BK204 hg; have NB206_204 := ng NB204_206; replace BK203 := bb BK203 hb; replace BK204 := bb BK204 hb; replace HB := bs HB hb; clear hb hbox hg; have hnb17 := NB206_203.out; have hnc17 := NB203_206.out; have hnb18 := NB206_204.out; have hnc18 := NB204_206.out; obtain ⟨hcz19_0, hcz19_1, hfz19_0, hfz19_1⟩ := cz2 BK206))
                    (try simp only [Act.put, List.setIfInBounds_toArray, List.set_cons_zero, List.set_cons_succ])
                    go_cut [40] (fun v40 wc => ∃ (kq : Nat) (x40_14 : Bool), v40 = .bool x40_14 ∧ Aside0 (tier_Grains.j2 kq a1 l0 (l0.length : Int) x24_2 x40_14 x205000_2 x205001_2 ((rd_T43 l0 x24_2).f0) ((rd_T43 l0 x24_2).f1) = some (r1, r2, r3)) ∧ Aside0 (kq ≤ k2) ∧ Aside0 (wc.heap[gb203]? = some (.cells #[.int .i64 x204000_2, .int .u64 x204001_2] 35 (0, 0))) ∧ Aside0 (wc.heap[gb204]? = some (.cells #[.int .i64 x205000_2, .int .u64 x205001_2] 35 (0, 0))) ∧ Aside0 (wc.heap[gb206]? = some (.cells #[.int .i64 ((rd_T43 l0 x24_2).f0), .int .i64 ((rd_T43 l0 x24_2).f1)] 43 (0, 0))) ∧ Aside0 (Below w.heap.size w wc))
                    case first =>
                      have H := HC15.out
                      clear HC15
                      by_cases c20 : ((rd_T43 l0 x24_2).f0) < 0
                      · rw [if_pos c20] at H
                        have c20b0 : decide (((rd_T43 l0 x24_2).f0) < 0) = true := decide_eq_true c20
                        clear c20
                        (first | rw [c20b0] | (simp only [i64_w, i32_w]; rw [c20b0]) | skip)
                        have H' := Aside0.mk H
                        clear H
                        have hnb21 := NB206_203.out
                        have hnc21 := NB203_206.out
                        have hnb22 := NB206_204.out
                        have hnc22 := NB204_206.out
                        obtain ⟨hcz23_0, hcz23_1, hfz23_0, hfz23_1⟩ := cz2 BK206
                        go_wp2
                        go_meet
                        case rel => exact ⟨_, (true), (by first | rfl | (simp; done) | (simp [*]; done)), H', ⟨by have := HJ5.out; have := HK2.out; first | omega | exact Nat.le_refl _⟩, ⟨bq BK203⟩, ⟨bq BK204⟩, ⟨bp BK206⟩, ⟨hq HB⟩⟩
                      · rw [if_neg c20] at H
                        have c20b0 : decide (((rd_T43 l0 x24_2).f0) < 0) = false := decide_eq_false c20
                        clear c20
                        (first | rw [c20b0] | (simp only [i64_w, i32_w]; rw [c20b0]) | skip)
                        by_cases c24 : ((rd_T43 l0 x24_2).f1) < 0
                        · rw [if_pos c24] at H
                          have c24b0 : decide (((rd_T43 l0 x24_2).f1) < 0) = true := decide_eq_true c24
                          clear c24
                          have H' := Aside0.mk H
                          clear H
                          have hnb25 := NB206_203.out
                          have hnc25 := NB203_206.out
                          have hnb26 := NB206_204.out
                          have hnc26 := NB204_206.out
                          obtain ⟨hcz27_0, hcz27_1, hfz27_0, hfz27_1⟩ := cz2 BK206
                          go_wp2
                          go_meet
                          case rel => exact ⟨_, (true), (by first | rfl | (simp; done) | (simp [*]; done)), H', ⟨by have := HJ5.out; have := HK2.out; first | omega | exact Nat.le_refl _⟩, ⟨bq BK203⟩, ⟨bq BK204⟩, ⟨bp BK206⟩, ⟨hq HB⟩⟩
                        · rw [if_neg c24] at H
                          have c24b0 : decide (((rd_T43 l0 x24_2).f1) < 0) = false := decide_eq_false c24
                          clear c24
                          have H' := Aside0.mk H
                          clear H
                          have hnb28 := NB206_203.out
                          have hnc28 := NB203_206.out
                          have hnb29 := NB206_204.out
                          have hnc29 := NB204_206.out
                          obtain ⟨hcz30_0, hcz30_1, hfz30_0, hfz30_1⟩ := cz2 BK206
                          go_wp2
                          go_meet
                          case rel => exact ⟨_, (decide (((rd_T43 l0 x24_2).f1) > 1000000)), (by first | rfl | (simp; done) | (simp [*]; done)), H', ⟨by have := HJ5.out; have := HK2.out; first | omega | exact Nat.le_refl _⟩, ⟨bq BK203⟩, ⟨bq BK204⟩, ⟨bp BK206⟩, ⟨hq HB⟩⟩
                    case rest =>
                      clear HC15
                      try clear c1
                      try clear c2
                      try clear p2
                      try clear q2
                      try clear hx2
                      try clear c3
                      try clear c3b0
                      try clear c3b1
                      try clear c8
                      try clear c8b0
                      try clear c9
                      try clear c12
                      try clear c12b0
                      try clear c13
                      try clear c13b0
                      try clear c14
                      try clear c14b0
                      try clear c17
                      try clear c18
                      try clear c20
                      try clear c20b0
                      try clear p20
                      try clear q20
                      try clear hx20
                      try clear c21
                      try clear c22
                      try clear c24
                      try clear c24b0
                      try clear c25
                      try clear c26
                      try clear c28
                      try clear c29
                      try clear hcz10_0
                      try clear hcz10_1
                      try clear hcz19_0
                      try clear hcz19_1
                      try clear hcz23_0
                      try clear hcz23_1
                      try clear hcz27_0
                      try clear hcz27_1
                      try clear hcz30_0
                      try clear hcz30_1
                      try clear hcz5_0
                      try clear hcz5_1
                      try clear hfz10_0
                      try clear hfz10_1
                      try clear hfz19_0
                      try clear hfz19_1
                      try clear hfz23_0
                      try clear hfz23_1
                      try clear hfz27_0
                      try clear hfz27_1
                      try clear hfz30_0
                      try clear hfz30_1
                      try clear hfz5_0
                      try clear hfz5_1
                      try clear hx205_0
                      try clear hx205_1
                      try clear p2
                      try clear p205
                      try clear q205
                      obtain ⟨kq, x40_14, rfl, HA, HJ14, BK203, BK204, BK206, HB⟩ := hcut
                      cases kq with
                      | zero => exact absurd HA.out (by simp [tier_Grains.j2])
                      | succ kj14 =>
                        have H := HA.out
                        clear HA
                        simp only [tier_Grains.j2] at H
                        by_cases c31 : x40_14 = true
                        · subst c31
                          have H1 : (some (0, 0, 1)) = some (r1, r2, r3) := by rw [if_pos rfl] at H; exact H
                          clear H
                          have H := H1
                          clear H1
                          simp only [Option.some.injEq, Prod.mk.injEq] at H
                          obtain ⟨rfl, rfl, rfl⟩ := H
                          have hnb32 := NB203_204.out
                          have hnc32 := NB204_203.out
                          have hnb33 := NB203_206.out
                          have hnc33 := NB206_203.out
                          obtain ⟨hcz34_0, hcz34_1, hfz34_0, hfz34_1⟩ := cz2 BK203
                          go_wp2
                          refine bodyPost_ret (results_ct rfl _ _ gb203 35 #[.int .i64 0, .int .u64 0] (0, 0) _ rfl (bp BK203) Try.underlying35 rfl (by kernel_rfl)) rfl ?_
                          exact ⟨by first | rfl | (simp [errW_none, errW_some] <;> rfl) | (simp [*, errW_none, errW_some] <;> rfl), hq HB⟩
                        · replace c31 := Bool.eq_false_iff.mpr c31
                          subst c31
                          have H1 : ((wide_Mul.f ((rd_T43 l0 x24_2).f0) ((rd_T43 l0 x24_2).f1)).bind fun bt207 => ((wide_Scale.f kj14 bt207.1 bt207.2 a1).bind fun bt209 => ((wide_Add.f x205000_2 x205001_2 bt209.1 bt209.2.1).bind fun bt213 => (tier_Grains.l0 kj14 a1 l0 (l0.length : Int) (wrap64 (x24_2 + 1)) bt213.1 bt213.2.1)))) = some (r1, r2, r3) := by rw [if_neg (show ¬ (false = true) by decide)] at H; exact H
                          clear H
                          have H := H1
                          clear H1
                          replace H := Option.bind_eq_some_iff.mp H
                          obtain ⟨⟨t207, t208⟩, A350, H⟩ := H
                          replace H : ((wide_Scale.f kj14 t207 t208 a1).bind fun bt209 => ((wide_Add.f x205000_2 x205001_2 bt209.1 bt209.2.1).bind fun bt213 => (tier_Grains.l0 kj14 a1 l0 (l0.length : Int) (wrap64 (x24_2 + 1)) bt213.1 bt213.2.1))) = some (r1, r2, r3) := H
                          have A35 := Aside0.mk A350
                          clear A350
                          replace H := Option.bind_eq_some_iff.mp H
                          obtain ⟨⟨t209, t210, t211⟩, A360, H⟩ := H
                          replace H : ((wide_Add.f x205000_2 x205001_2 t209 t210).bind fun bt213 => (tier_Grains.l0 kj14 a1 l0 (l0.length : Int) (wrap64 (x24_2 + 1)) bt213.1 bt213.2.1)) = some (r1, r2, r3) := H
                          have A36 := Aside0.mk A360
                          clear A360
                          replace H := Option.bind_eq_some_iff.mp H
                          obtain ⟨⟨t213, t214, t215⟩, A370, H⟩ := H
                          replace H : (tier_Grains.l0 kj14 a1 l0 (l0.length : Int) (wrap64 (x24_2 + 1)) t213 t214) = some (r1, r2, r3) := H
                          have A37 := Aside0.mk A370
                          clear A370
                          have H' := Aside0.mk H
                          clear H
                          have hnb38 := NB206_203.out
                          have hnc38 := NB203_206.out
                          have hnb39 := NB206_204.out
                          have hnc39 := NB204_206.out
                          obtain ⟨hcz40_0, hcz40_1, hfz40_0, hfz40_1⟩ := cz2 BK206
                          go_wp2_with (first | ((with_reducible refine gate_callee (f := 44) rfl ?_); refine goesL_ (some 47) rfl rfl Try.func44 (by kernel_rfl) rfl #[.int .i64 ((rd_T43 l0 x24_2).f0), .int .i64 ((rd_T43 l0 x24_2).f1)] rfl zm ?_; (with_reducible refine (wide_Mul.calls ((rd_T43 l0 x24_2).f0) ((rd_T43 l0 x24_2).f1) t207 t208 _ A35.out).mono ?_); rintro e w41 ⟨rfl, hb⟩; refine ⟨_, rfl, ?_⟩; replace BK203 := bb BK203 hb; replace BK204 := bb BK204 hb; replace BK206 := bb BK206 hb; replace HB := bs HB hb; (try clear hb); (try clear hb2); (try clear hk); (try clear hi)) | ((with_reducible refine gate_callee (f := 43) rfl ?_); refine goesL_ (some 49) rfl rfl Try.func43 (by kernel_rfl) rfl #[.agg #[.int .i64 t207, .int .u64 t208], .int .i64 a1] rfl zm ?_; (with_reducible refine (wide_Scale.calls kj14 t207 t208 a1 t209 t210 t211 _ A36.out).mono ?_); rintro e w42 ⟨rfl, hb⟩; refine ⟨_, rfl, ?_⟩; replace BK203 := bb BK203 hb; replace BK204 := bb BK204 hb; replace BK206 := bb BK206 hb; replace HB := bs HB hb; (try clear hb); (try clear hb2); (try clear hk); (try clear hi)) | ((with_reducible refine gate_dst (N := 9) rfl ?_); refine box_event ?hg (N := 9) ?hd (cs := #[.int .i64 0, .int .u64 0]) (t := 35) ?hr ?_; (case hd => rfl); (case hg => rfl); (case hr => first | (go_simp; done) | (go_simp; rfl)); intro gb212 hg w43 hbox hb; have BK212 := Aside0.mk (hbox); have GW212 := ge HB hg; have GE212 := ge HB hg; have NB203_212 := nl BK203 hg; have NB212_203 := ng NB203_212; have NB204_212 := nl BK204 hg; have NB212_204 := ng NB204_212; have NB206_212 := nl BK206 hg; have NB212_206 := ng NB206_212; replace BK203 := bb BK203 hb; replace BK204 := bb BK204 hb; replace BK206 := bb BK206 hb; replace HB := bs HB hb; clear hb hbox hg; have hnb44 := NB212_203.out; have hnc44 := NB203_212.out; have hnb45 := NB212_204.out; have hnc45 := NB204_212.out; have hnb46 := NB212_206.out; have hnc46 := NB206_212.out; obtain ⟨hcz47_0, hcz47_1, hfz47_0, hfz47_1⟩ := cz2 BK212; have hnb48 := NB204_203.out; have hnc48 := NB203_204.out; obtain ⟨hcz49_0, hcz49_1, hfz49_0, hfz49_1⟩ := cz2 BK204) | ((with_reducible refine gate_callee (f := 45) rfl ?_); refine goesL_ (some 55) rfl rfl Try.func45 (by kernel_rfl) rfl #[.agg #[.int .i64 x205000_2, .int .u64 x205001_2], .agg #[.int .i64 t209, .int .u64 t210]] rfl zm ?_; (with_reducible refine (wide_Add.calls x205000_2 x205001_2 t209 t210 t213 t214 t215 _ A37.out).mono ?_); rintro e w50 ⟨rfl, hb⟩; refine ⟨_, rfl, ?_⟩; replace BK203 := bb BK203 hb; replace BK204 := bb BK204 hb; replace BK206 := bb BK206 hb; replace BK212 := bpb BK212 hb #[.int .i64 t209, .int .u64 t210]; replace HB := bs HB hb; (try clear hb); (try clear hb2); (try clear hk); (try clear hi); obtain ⟨hcz51_0, hcz51_1, hfz51_0, hfz51_1⟩ := cz2 BK204))
                          go_roundg kj14
                          case measure => have := HJ5.out; have := HK2.out; have := HJ14.out; omega
                          case rel => exact ⟨(wrap64 (x24_2 + 1)), (x204000_2), (x204001_2), (t213), (t214), (by first | rfl | (simp; done) | (simp [*]; done)), H', ⟨by have := HJ5.out; have := HK2.out; have := HJ14.out; omega⟩, ⟨bq BK203⟩, ⟨bp BK204⟩, ⟨hq HB⟩⟩
                  · rw [if_neg c14] at H
                    exact absurd H (by simp)
                · rw [if_neg c13] at H
                  exact absurd H (by simp)
              · rw [if_neg c12] at H
                have c12b0 : decide (x24_2 < (l0.length : Int)) = false := decide_eq_false c12
                clear c12
                simp only [Option.some.injEq, Prod.mk.injEq] at H
                obtain ⟨rfl, rfl, rfl⟩ := H
                have hnb52 := NB204_203.out
                have hnc52 := NB203_204.out
                obtain ⟨hcz53_0, hcz53_1, hfz53_0, hfz53_1⟩ := cz2 BK204
                obtain ⟨hcz54_0, hcz54_1, hfz54_0, hfz54_1⟩ := cz2 BK203
                go_wp2
                refine bodyPost_ret (results_ct rfl _ _ gb203 35 #[.int .i64 x205000_2, .int .u64 x205001_2] (0, 0) _ rfl (bp BK203) Try.underlying35 rfl (by kernel_rfl)) rfl ?_
                exact ⟨by first | rfl | (simp [errW_none, errW_some] <;> rfl) | (simp [*, errW_none, errW_some] <;> rfl), hq HB⟩

end Go.Proofs.Ytlmabdiodopidaa.P
end
section
set_option linter.unusedVariables false
set_option linter.unusedSimpArgs false
namespace Go.Proofs.Ytlmabdiodopidaa.G
set_option maxRecDepth 100000
open Go.RowKit Go.Proofs.YtlmabdiodopidaaW.PrintWords Go.Proofs.YtlmabdiodopidaaW.PrintLast Go.Proofs.YtlmabdiodopidaaW.PrintMore Go.Proofs.Ytlmabdiodopidaa.P
/-- a leap year -/
def leapY (y : Int) : Bool := (y.tmod 4 == 0) && ((y.tmod 100 != 0) || (y.tmod 400 == 0))
def date_Leap.f (a0 : Int) : Option Bool := some (leapY a0)
theorem date_Leap.calls (a0 : Int) (r : Bool) (w : World) (h : date_Leap.f a0 = some r) : Calls Try.prog 99 #[.int .i64 a0] w fun e w' => e = .returned (.bool r) ∧ Drawn0 w w' := by
  obtain rfl := Option.some.inj h
  clear h
  cases h1 : (a0.tmod 4 == 0) <;> cases h2 : (a0.tmod 100 != 0) <;> cases h3 : (a0.tmod 400 == 0)
  all_goals
    go_enter Try.func99, Try.ntmps99
    go_wp2
    go_ret
    exact ⟨retb (by unfold leapY; rw [h1, h2, h3]; rfl), Drawn0.refl _⟩
/-- the days of a month -/
def monthDays (m : Int) : Option Int := if 0 ≤ m then (if m ≤ 12 then some (rd [0, 31, 28, 31, 30, 31, 30, 31, 31, 30, 31, 30, 31] m) else none) else none
def date_length.f (a0 a1 : Int) : Option Int := if (a1 == 2 && leapY a0) = true then some 29 else monthDays a1
theorem date_length.calls (a0 a1 r : Int) (w : World) (h : date_length.f a0 a1 = some r) : Calls Try.prog 102 #[.int .i64 a0, .int .i64 a1] w fun e w' => e = .returned (.int .i64 r) ∧ Below w.heap.size w w' := by
  unfold date_length.f at h
  have hB := (Below.refl w.heap.size w).alloc (Nat.le_refl _) (.cells ([.int .i64 0, .int .i64 31, .int .i64 28, .int .i64 31, .int .i64 30, .int .i64 31, .int .i64 30, .int .i64 31, .int .i64 31, .int .i64 30, .int .i64 31, .int .i64 30, .int .i64 31] : List Value).toArray 151)
  have HB := Aside0.mk hB
  clear hB
  by_cases hc : (a1 == 2 && leapY a0) = true
  · rw [if_pos hc] at h
    obtain rfl := Option.some.inj h
    rw [Bool.and_eq_true] at hc
    obtain ⟨h1, h2⟩ := hc
    have H2 := Aside0.mk h2
    clear h h2
    go_enter Try.func102, Try.ntmps102
    go_wp2_with (first | (go_at_call 99; refine (date_Leap.calls a0 true _ (by rw [date_Leap.f, H2.out])).mono ?_; rintro e w' ⟨rfl, ⟨nd, rfl⟩⟩))
    go_ret
    exact ⟨rfl, pw_below_drewN HB.out _⟩
  · rw [if_neg hc] at h
    unfold monthDays at h
    split at h
    case isFalse => cases h
    case isTrue h0 =>
    split at h
    case isFalse => cases h
    case isTrue h12 =>
    obtain rfl := Option.some.inj h
    clear h
    have hq : ([.int .i64 0, .int .i64 31, .int .i64 28, .int .i64 31, .int .i64 30, .int .i64 31, .int .i64 30, .int .i64 31, .int .i64 31, .int .i64 30, .int .i64 31, .int .i64 30, .int .i64 31] : List Value)[a1.toNat]? = some (.int .i64 (rd [0, 31, 28, 31, 30, 31, 30, 31, 31, 30, 31, 30, 31] a1)) := by
      obtain ⟨m, hm⟩ : ∃ m : Nat, a1 = m ∧ m ≤ 12 := ⟨a1.toNat, by omega, by omega⟩
      obtain ⟨rfl, hm⟩ := hm
      have : m = 0 ∨ m = 1 ∨ m = 2 ∨ m = 3 ∨ m = 4 ∨ m = 5 ∨ m = 6 ∨ m = 7 ∨ m = 8 ∨ m = 9 ∨ m = 10 ∨ m = 11 ∨ m = 12 := by omega
      rcases this with rfl | rfl | rfl | rfl | rfl | rfl | rfl | rfl | rfl | rfl | rfl | rfl | rfl <;> rfl
    generalize hrd : rd [0, 31, 28, 31, 30, 31, 30, 31, 31, 30, 31, 30, 31] a1 = r at *
    clear hrd
    cases h1 : (a1 == 2)
    · go_enter Try.func102, Try.ntmps102
      go_wp2
      go_ret
      exact ⟨rfl, HB.out⟩
    · have h2 : leapY a0 = false := by
        rw [h1] at hc
        simpa using hc
      have H2 := Aside0.mk h2
      clear h2 hc
      go_enter Try.func102, Try.ntmps102
      go_wp2_with (first | (go_at_call 99; refine (date_Leap.calls a0 false _ (by rw [date_Leap.f, H2.out])).mono ?_; rintro e w' ⟨rfl, ⟨nd, rfl⟩⟩))
      go_ret
      exact ⟨rfl, pw_below_drewN HB.out _⟩
end Go.Proofs.Ytlmabdiodopidaa.G
end
section
set_option linter.unusedVariables false
set_option linter.unusedSimpArgs false
namespace Go.Proofs.Ytlmabdiodopidaa.P
open Go.Proofs.Ytlmabdiodopidaa.G
attribute [local go_sem high] un_not64 un_noti run_add64
open Go.RowKit Go.Proofs.YtlmabdiodopidaaW.PrintWords Go.Proofs.YtlmabdiodopidaaW.PrintLast Go.Proofs.YtlmabdiodopidaaW.PrintMore
attribute [local go_sem] max2_int min2_int max_two min_two max_three min_three max_four min_four   -- for this text's walks alone
set_option linter.unusedVariables false
set_option linter.unusedSimpArgs false

/-! ### date_Valid: function 52 -/
def date_Valid.f (a0 : Int) : Option (Bool) := if a0 ≥ 0 then (some (decide (a0 ≤ 73048))) else (some false)
set_option maxHeartbeats 8000000 in
set_option maxRecDepth 100000 in
theorem date_Valid.calls (a0 : Int) (r : Bool) (w : World) (h : date_Valid.f a0 = some r) :
    Calls Try.prog 52 #[.int .i64 a0] w fun e w' => e = .returned (.bool r) ∧ Drawn0 w w' := by
  have H : (if a0 ≥ 0 then (some (decide (a0 ≤ 73048))) else (some false)) = some r := h
  clear h
  by_cases c2 : a0 ≥ 0
  · rw [if_pos c2] at H
    have c2b0 : decide (0 ≤ a0) = true := decide_eq_true c2
    clear c2
    obtain rfl := Option.some.inj H
    go_enter Try.func52, Try.ntmps52
    go_wp2
    go_ret
    exact ⟨by first | rfl | (simp; done) | (simp [*]; done), by repeat (first | exact Drawn0.refl _ | apply Drawn0.step)⟩
  · rw [if_neg c2] at H
    have c2b0 : decide (0 ≤ a0) = false := decide_eq_false c2
    clear c2
    obtain rfl := Option.some.inj H
    go_enter Try.func52, Try.ntmps52
    go_wp2
    go_ret
    exact ⟨by first | rfl | (simp; done) | (simp [*]; done), by repeat (first | exact Drawn0.refl _ | apply Drawn0.step)⟩

/-! ### date_begin: function 101 -/
def date_begin.f (a0 : Int) : Option (Int) := if a0 > 2100 then (some (wrap64 ((wrap64 (365 * (wrap64 (a0 - 2000)))) + (wrap64 ((wrap64 (Int.tdiv (wrap64 ((wrap64 (a0 - 2000)) + 3)) 4)) - 1))))) else (some (wrap64 ((wrap64 (365 * (wrap64 (a0 - 2000)))) + (wrap64 (Int.tdiv (wrap64 ((wrap64 (a0 - 2000)) + 3)) 4)))))
set_option maxHeartbeats 8000000 in
set_option maxRecDepth 100000 in
theorem date_begin.calls (a0 : Int) (r : Int) (w : World) (h : date_begin.f a0 = some r) :
    Calls Try.prog 101 #[.int .i64 a0] w fun e w' => e = .returned (.int .i64 r) ∧ Drawn0 w w' := by
  have H : (if a0 > 2100 then (some (wrap64 ((wrap64 (365 * (wrap64 (a0 - 2000)))) + (wrap64 ((wrap64 (Int.tdiv (wrap64 ((wrap64 (a0 - 2000)) + 3)) 4)) - 1))))) else (some (wrap64 ((wrap64 (365 * (wrap64 (a0 - 2000)))) + (wrap64 (Int.tdiv (wrap64 ((wrap64 (a0 - 2000)) + 3)) 4)))))) = some r := h
  clear h
  by_cases c2 : a0 > 2100
  · rw [if_pos c2] at H
    have c2b0 : decide (2100 < a0) = true := decide_eq_true c2
    clear c2
    obtain rfl := Option.some.inj H
    go_enter Try.func101, Try.ntmps101
    go_wp2
    go_ret
    exact ⟨by first | rfl | (simp; done) | (simp [*]; done), by repeat (first | exact Drawn0.refl _ | apply Drawn0.step)⟩
  · rw [if_neg c2] at H
    have c2b0 : decide (2100 < a0) = false := decide_eq_false c2
    clear c2
    obtain rfl := Option.some.inj H
    go_enter Try.func101, Try.ntmps101
    go_wp2
    go_ret
    exact ⟨by first | rfl | (simp; done) | (simp [*]; done), by repeat (first | exact Drawn0.refl _ | apply Drawn0.step)⟩

/-! ### date_Civil: function 98 -/
mutual
def date_Civil.l0 : Nat → Int → Int → Option (Int × Int × Int)
  | 0, _, _ => none
  | k + 1, x0, x5 => (date_begin.f (wrap64 (x5 + 1))).bind fun t102 => (if t102 ≤ x0 then (date_Civil.l0 k x0 (wrap64 (x5 + 1))) else ((date_begin.f x5).bind fun t103 => (date_Civil.l1 k (wrap64 (x0 - t103)) x5 1)))
def date_Civil.l1 : Nat → Int → Int → Int → Option (Int × Int × Int)
  | 0, _, _, _ => none
  | k + 1, x0, x5, x6 => (date_length.f x5 x6).bind fun t104 => (if x0 ≥ t104 then ((date_length.f x5 x6).bind fun t105 => (date_Civil.l1 k (wrap64 (x0 - t105)) x5 (wrap64 (x6 + 1)))) else (some (x5, x6, wrap64 (x0 + 1))))
end
def date_Civil.f (k : Nat) (a0 : Int) : Option (Int × Int × Int) := (date_Valid.f a0).bind fun t101 => (if t101 = true then (date_Civil.l0 k a0 (wrap64 (2000 + (wrap64 (Int.tdiv a0 366))))) else (some (0, 0, 0)))
theorem date_Civil.mono_l : ∀ k, (∀ y0 y1, LeO (date_Civil.l0 k y0 y1) (date_Civil.l0 (k + 1) y0 y1)) ∧ (∀ y0 y1 y2, LeO (date_Civil.l1 k y0 y1 y2) (date_Civil.l1 (k + 1) y0 y1 y2))
  | 0 => ⟨fun _ _ r h => by simp [date_Civil.l0] at h, fun _ _ _ r h => by simp [date_Civil.l1] at h⟩
  | k + 1 => by
    obtain ⟨ih0, ih1⟩ := date_Civil.mono_l k
    refine ⟨?_, ?_⟩
    · intro y0 y1
      unfold date_Civil.l0
      repeat' first
      | (with_reducible exact ih0 _ _)
      | (with_reducible exact ih1 _ _ _)
      | (with_reducible exact LeO.refl _)
      | (with_reducible exact LeO.none _)
      | (with_reducible refine LeO.ite ?_ ?_)
      | (with_reducible refine LeO.bind ?_ (fun _ => ?_))
      | exact ih0 _ _
      | exact ih1 _ _ _
      | exact LeO.none _
      | refine LeO.ite ?_ ?_
      | refine LeO.bind ?_ (fun _ => ?_)
    · intro y0 y1 y2
      unfold date_Civil.l1
      repeat' first
      | (with_reducible exact ih0 _ _)
      | (with_reducible exact ih1 _ _ _)
      | (with_reducible exact LeO.refl _)
      | (with_reducible exact LeO.none _)
      | (with_reducible refine LeO.ite ?_ ?_)
      | (with_reducible refine LeO.bind ?_ (fun _ => ?_))
      | exact ih0 _ _
      | exact ih1 _ _ _
      | exact LeO.none _
      | refine LeO.ite ?_ ?_
      | refine LeO.bind ?_ (fun _ => ?_)
theorem date_Civil.mono : ∀ a0 k, LeO (date_Civil.f k a0) (date_Civil.f (k + 1) a0) := by
  intro a0 k
  obtain ⟨ih0, ih1⟩ := date_Civil.mono_l k
  unfold date_Civil.f
  repeat' first
      | (with_reducible exact ih0 _ _)
      | (with_reducible exact ih1 _ _ _)
      | (with_reducible exact LeO.refl _)
      | (with_reducible exact LeO.none _)
      | (with_reducible refine LeO.ite ?_ ?_)
      | (with_reducible refine LeO.bind ?_ (fun _ => ?_))
      | exact ih0 _ _
      | exact ih1 _ _ _
      | exact LeO.none _
      | refine LeO.ite ?_ ?_
      | refine LeO.bind ?_ (fun _ => ?_)
set_option maxHeartbeats 8000000 in
set_option maxRecDepth 100000 in
theorem date_Civil.calls (k : Nat) (a0 : Int) (r1 : Int) (r2 : Int) (r3 : Int) (w : World) (h : date_Civil.f k a0 = some (r1, r2, r3)) :
    Calls Try.prog 98 #[.int .i64 a0] w fun e w' => e = .returned (.tuple #[.int .i64 r1, .int .i64 r2, .int .i64 r3]) ∧ Below w.heap.size w w' := by
  have HB := Aside0.mk (Below.refl w.heap.size w)
  have H : ((date_Valid.f a0).bind fun t101 => (if t101 = true then (date_Civil.l0 k a0 (wrap64 (2000 + (wrap64 (Int.tdiv a0 366))))) else (some (0, 0, 0)))) = some (r1, r2, r3) := h
  clear h
  replace H := Option.bind_eq_some_iff.mp H
  obtain ⟨t101, A20, H⟩ := H
  replace H : (if t101 = true then (date_Civil.l0 k a0 (wrap64 (2000 + (wrap64 (Int.tdiv a0 366))))) else (some (0, 0, 0))) = some (r1, r2, r3) := H
  have A2 := Aside0.mk A20
  clear A20
  by_cases c3 : t101 = true
  · subst c3
    have H1 : (date_Civil.l0 k a0 (wrap64 (2000 + (wrap64 (Int.tdiv a0 366))))) = some (r1, r2, r3) := by rw [if_pos rfl] at H; exact H
    clear H
    have H := H1
    clear H1
    have H' := Aside0.mk H
    clear H
    go_enter Try.func98, Try.ntmps98
    go_wp2_with (first | ((with_reducible refine gate_callee (f := 52) rfl ?_); refine goesL_ (some 8) rfl rfl Try.func52 (by kernel_rfl) rfl #[.int .i64 a0] rfl zm ?_; (with_reducible refine (date_Valid.calls a0 true _ A2.out).mono ?_); rintro e w' ⟨rfl, ⟨nd, rfl⟩⟩; refine ⟨_, rfl, ?_⟩))
    go_loopg [5] k (fun kq v5 w' => ∃ (x5_1 : Int), v5 = .int .i64 x5_1 ∧ Aside0 (date_Civil.l0 kq a0 x5_1 = some (r1, r2, r3)) ∧ Aside0 (kq ≤ k) ∧ Aside0 (Below w.heap.size w w'))
    case atStart => exact ⟨(wrap64 (2000 + (wrap64 (Int.tdiv a0 366)))), (by first | rfl | (simp; done) | (simp [*]; done)), H', ⟨Nat.le_refl _⟩, ⟨hq HB⟩⟩
    case round =>
      clear H'
      try clear p2
      try clear c3
      obtain ⟨x5_1, rfl, HA, HK1, HB⟩ := hrel
      cases gk with
      | zero => exact absurd HA.out (by simp [date_Civil.l0])
      | succ k1 =>
        have H := HA.out
        clear HA
        simp only [date_Civil.l0] at H
        replace H := Option.bind_eq_some_iff.mp H
        obtain ⟨t102, A40, H⟩ := H
        replace H : (if t102 ≤ a0 then (date_Civil.l0 k1 a0 (wrap64 (x5_1 + 1))) else ((date_begin.f x5_1).bind fun t103 => (date_Civil.l1 k1 (wrap64 (a0 - t103)) x5_1 1))) = some (r1, r2, r3) := H
        have A4 := Aside0.mk A40
        clear A40
        by_cases c5 : t102 ≤ a0
        · rw [if_pos c5] at H
          have c5b0 : decide (t102 ≤ a0) = true := decide_eq_true c5
          clear c5
          have H' := Aside0.mk H
          clear H
          go_wp2_with (first | ((with_reducible refine gate_callee (f := 101) rfl ?_); refine goesL_ (some 15) rfl rfl Try.func101 (by kernel_rfl) rfl #[.int .i64 (wrap64 (x5_1 + 1))] rfl zm ?_; (with_reducible refine (date_begin.calls (wrap64 (x5_1 + 1)) t102 _ A4.out).mono ?_); rintro e w' ⟨rfl, ⟨nd, rfl⟩⟩; refine ⟨_, rfl, ?_⟩))
          go_roundg k1
          case measure => have := HK1.out; omega
          case rel => exact ⟨(wrap64 (x5_1 + 1)), (by first | rfl | (simp; done) | (simp [*]; done)), H', ⟨by have := HK1.out; omega⟩, ⟨hq HB⟩⟩
        · rw [if_neg c5] at H
          have c5b0 : decide (t102 ≤ a0) = false := decide_eq_false c5
          clear c5
          replace H := Option.bind_eq_some_iff.mp H
          obtain ⟨t103, A60, H⟩ := H
          replace H : (date_Civil.l1 k1 (wrap64 (a0 - t103)) x5_1 1) = some (r1, r2, r3) := H
          have A6 := Aside0.mk A60
          clear A60
          have H' := Aside0.mk H
          clear H
          go_wp2_with (first | ((with_reducible refine gate_callee (f := 101) rfl ?_); refine goesL_ (some 15) rfl rfl Try.func101 (by kernel_rfl) rfl #[.int .i64 (wrap64 (x5_1 + 1))] rfl zm ?_; (with_reducible refine (date_begin.calls (wrap64 (x5_1 + 1)) t102 _ A4.out).mono ?_); rintro e w' ⟨rfl, ⟨nd, rfl⟩⟩; refine ⟨_, rfl, ?_⟩) | ((with_reducible refine gate_callee (f := 101) rfl ?_); refine goesL_ (some 22) rfl rfl Try.func101 (by kernel_rfl) rfl #[.int .i64 x5_1] rfl zm ?_; (with_reducible refine (date_begin.calls x5_1 t103 _ A6.out).mono ?_); rintro e w' ⟨rfl, ⟨nd, rfl⟩⟩; refine ⟨_, rfl, ?_⟩))
          go_loopg [0, 6] k1 (fun kq v0 v6 w' => ∃ (x0_2 : Int) (x6_2 : Int), v0 = .int .i64 x0_2 ∧ v6 = .int .i64 x6_2 ∧ Aside0 (date_Civil.l1 kq x0_2 x5_1 x6_2 = some (r1, r2, r3)) ∧ Aside0 (kq ≤ k1) ∧ Aside0 (Below w.heap.size w w'))
          case atStart => exact ⟨(wrap64 (a0 - t103)), (1), (by first | rfl | (simp; done) | (simp [*]; done)), (by first | rfl | (simp; done) | (simp [*]; done)), H', ⟨Nat.le_refl _⟩, ⟨hq HB⟩⟩
          case round =>
            clear H'
            try clear c1
            try clear p2
            try clear c3
            try clear c5
            try clear c5b0
            try clear p6
            try clear p2
            obtain ⟨x0_2, x6_2, rfl, rfl, HA, HK2, HB⟩ := hrel
            cases gk with
            | zero => exact absurd HA.out (by simp [date_Civil.l1])
            | succ k2 =>
              have H := HA.out
              clear HA
              simp only [date_Civil.l1] at H
              replace H := Option.bind_eq_some_iff.mp H
              obtain ⟨t104, A70, H⟩ := H
              replace H : (if x0_2 ≥ t104 then ((date_length.f x5_1 x6_2).bind fun t105 => (date_Civil.l1 k2 (wrap64 (x0_2 - t105)) x5_1 (wrap64 (x6_2 + 1)))) else (some (x5_1, x6_2, wrap64 (x0_2 + 1)))) = some (r1, r2, r3) := H
              have A7 := Aside0.mk A70
              clear A70
              by_cases c8 : x0_2 ≥ t104
              · rw [if_pos c8] at H
                have c8b0 : decide (t104 ≤ x0_2) = true := decide_eq_true c8
                clear c8
                replace H := Option.bind_eq_some_iff.mp H
                obtain ⟨t105, A90, H⟩ := H
                replace H : (date_Civil.l1 k2 (wrap64 (x0_2 - t105)) x5_1 (wrap64 (x6_2 + 1))) = some (r1, r2, r3) := H
                have A9 := Aside0.mk A90
                clear A90
                have H' := Aside0.mk H
                clear H
                go_wp2_with (first | ((with_reducible refine gate_callee (f := 102) rfl ?_); refine goesL_ (some 27) rfl rfl Try.func102 (by kernel_rfl) rfl #[.int .i64 x5_1, .int .i64 x6_2] rfl zm ?_; (with_reducible refine (date_length.calls x5_1 x6_2 t104 _ A7.out).mono ?_); rintro e w10 ⟨rfl, hb⟩; refine ⟨_, rfl, ?_⟩; replace HB := bs HB hb; (try clear hb); (try clear hb2); (try clear hk); (try clear hi)) | ((with_reducible refine gate_callee (f := 102) rfl ?_); refine goesL_ (some 32) rfl rfl Try.func102 (by kernel_rfl) rfl #[.int .i64 x5_1, .int .i64 x6_2] rfl zm ?_; (with_reducible refine (date_length.calls x5_1 x6_2 t105 _ A9.out).mono ?_); rintro e w11 ⟨rfl, hb⟩; refine ⟨_, rfl, ?_⟩; replace HB := bs HB hb; (try clear hb); (try clear hb2); (try clear hk); (try clear hi)))
                go_roundg k2
                case measure => have := HK1.out; have := HK2.out; omega
                case rel => exact ⟨(wrap64 (x0_2 - t105)), (wrap64 (x6_2 + 1)), (by first | rfl | (simp; done) | (simp [*]; done)), (by first | rfl | (simp; done) | (simp [*]; done)), H', ⟨by have := HK1.out; have := HK2.out; omega⟩, ⟨hq HB⟩⟩
              · rw [if_neg c8] at H
                have c8b0 : decide (t104 ≤ x0_2) = false := decide_eq_false c8
                clear c8
                simp only [Option.some.injEq, Prod.mk.injEq] at H
                obtain ⟨rfl, rfl, rfl⟩ := H
                go_wp2_with (first | ((with_reducible refine gate_callee (f := 102) rfl ?_); refine goesL_ (some 27) rfl rfl Try.func102 (by kernel_rfl) rfl #[.int .i64 x5_1, .int .i64 x6_2] rfl zm ?_; (with_reducible refine (date_length.calls x5_1 x6_2 t104 _ A7.out).mono ?_); rintro e w12 ⟨rfl, hb⟩; refine ⟨_, rfl, ?_⟩; replace HB := bs HB hb; (try clear hb); (try clear hb2); (try clear hk); (try clear hi)))
                go_ret3
                exact ⟨by first | rfl | (simp [errW_none, errW_some] <;> rfl) | (simp [*, errW_none, errW_some] <;> rfl), hq HB⟩
  · replace c3 := Bool.eq_false_iff.mpr c3
    subst c3
    have H1 : (some (0, 0, 0)) = some (r1, r2, r3) := by rw [if_neg (show ¬ (false = true) by decide)] at H; exact H
    clear H
    have H := H1
    clear H1
    simp only [Option.some.injEq, Prod.mk.injEq] at H
    obtain ⟨rfl, rfl, rfl⟩ := H
    go_enter Try.func98, Try.ntmps98
    go_wp2_with (first | ((with_reducible refine gate_callee (f := 52) rfl ?_); refine goesL_ (some 8) rfl rfl Try.func52 (by kernel_rfl) rfl #[.int .i64 a0] rfl zm ?_; (with_reducible refine (date_Valid.calls a0 false _ A2.out).mono ?_); rintro e w' ⟨rfl, ⟨nd, rfl⟩⟩; refine ⟨_, rfl, ?_⟩))
    go_ret3
    exact ⟨by first | rfl | (simp [errW_none, errW_some] <;> rfl) | (simp [*, errW_none, errW_some] <;> rfl), hq HB⟩

/-! ### daycount_Thirty: function 100 -/
def daycount_Thirty.j0 : Nat → Int → Int → Bool → Option (Int)
  | 0, _, _, _ => none
  | k + 1, x0, x1, x18 => if x18 = true then (some 0) else ((date_Civil.f k x0).bind fun bt108 => ((date_Civil.f k x1).bind fun bt111 => (some (wrap64 ((wrap64 ((wrap64 ((wrap64 (360 * (wrap64 (bt111.1 - bt108.1)))) + (wrap64 (30 * (wrap64 (bt111.2.1 - bt108.2.1)))))) + (mn bt111.2.2 30))) - (mn bt108.2.2 30))))))
def daycount_Thirty.f (k : Nat) (a0 : Int) (a1 : Int) : Option (Int) := (date_Valid.f a0).bind fun t106 => (if t106 = true then ((date_Valid.f a1).bind fun t107 => (daycount_Thirty.j0 k a0 a1 (!t107))) else (daycount_Thirty.j0 k a0 a1 true))
theorem daycount_Thirty.mono_l : ∀ k, (∀ y0 y1 y2, LeO (daycount_Thirty.j0 k y0 y1 y2) (daycount_Thirty.j0 (k + 1) y0 y1 y2))
  | 0 => fun _ _ _ r h => by simp [daycount_Thirty.j0] at h
  | k + 1 => by
    have ih0 := daycount_Thirty.mono_l k
    · intro y0 y1 y2
      unfold daycount_Thirty.j0
      repeat' first
      | (with_reducible exact ih0 _ _ _)
      | (with_reducible exact date_Civil.mono _ _)
      | (with_reducible exact LeO.refl _)
      | (with_reducible exact LeO.none _)
      | (with_reducible refine LeO.ite ?_ ?_)
      | (with_reducible refine LeO.bind ?_ (fun _ => ?_))
      | exact ih0 _ _ _
      | exact date_Civil.mono _ _
      | exact LeO.none _
      | refine LeO.ite ?_ ?_
      | refine LeO.bind ?_ (fun _ => ?_)
theorem daycount_Thirty.mono : ∀ a0 a1 k, LeO (daycount_Thirty.f k a0 a1) (daycount_Thirty.f (k + 1) a0 a1) := by
  intro a0 a1 k
  have ih0 := daycount_Thirty.mono_l k
  unfold daycount_Thirty.f
  repeat' first
      | (with_reducible exact ih0 _ _ _)
      | (with_reducible exact date_Civil.mono _ _)
      | (with_reducible exact LeO.refl _)
      | (with_reducible exact LeO.none _)
      | (with_reducible refine LeO.ite ?_ ?_)
      | (with_reducible refine LeO.bind ?_ (fun _ => ?_))
      | exact ih0 _ _ _
      | exact date_Civil.mono _ _
      | exact LeO.none _
      | refine LeO.ite ?_ ?_
      | refine LeO.bind ?_ (fun _ => ?_)
set_option maxHeartbeats 8000000 in
set_option maxRecDepth 100000 in
theorem daycount_Thirty.calls (k : Nat) (a0 : Int) (a1 : Int) (r : Int) (w : World) (h : daycount_Thirty.f k a0 a1 = some r) :
    Calls Try.prog 100 #[.int .i64 a0, .int .i64 a1] w fun e w' => e = .returned (.int .i64 r) ∧ Below w.heap.size w w' := by
  have HB := Aside0.mk (Below.refl w.heap.size w)
  have H : ((date_Valid.f a0).bind fun t106 => (if t106 = true then ((date_Valid.f a1).bind fun t107 => (daycount_Thirty.j0 k a0 a1 (!t107))) else (daycount_Thirty.j0 k a0 a1 true))) = some r := h
  clear h
  have HC3 := Aside0.mk H
  clear H
  go_enter Try.func100, Try.ntmps100
  go_upto_region 1 with (fail)
  go_cut [18] (fun v18 wc => ∃ (kq : Nat) (x18_2 : Bool), v18 = .bool x18_2 ∧ Aside0 (daycount_Thirty.j0 kq a0 a1 x18_2 = some r) ∧ Aside0 (kq ≤ k) ∧ Aside0 (Below w.heap.size w wc))
  case first =>
    have H := HC3.out
    clear HC3
    replace H := Option.bind_eq_some_iff.mp H
    obtain ⟨t106, A40, H⟩ := H
    replace H : (if t106 = true then ((date_Valid.f a1).bind fun t107 => (daycount_Thirty.j0 k a0 a1 (!t107))) else (daycount_Thirty.j0 k a0 a1 true)) = some r := H
    have A4 := Aside0.mk A40
    clear A40
    by_cases c5 : t106 = true
    · subst c5
      have H1 : ((date_Valid.f a1).bind fun t107 => (daycount_Thirty.j0 k a0 a1 (!t107))) = some r := by rw [if_pos rfl] at H; exact H
      clear H
      have H := H1
      clear H1
      replace H := Option.bind_eq_some_iff.mp H
      obtain ⟨t107, A60, H⟩ := H
      replace H : (daycount_Thirty.j0 k a0 a1 (!t107)) = some r := H
      have A6 := Aside0.mk A60
      clear A60
      have H' := Aside0.mk H
      clear H
      go_wp2_with (first | ((with_reducible refine gate_callee (f := 52) rfl ?_); refine goesL_ (some 12) rfl rfl Try.func52 (by kernel_rfl) rfl #[.int .i64 a0] rfl zm ?_; (with_reducible refine (date_Valid.calls a0 true _ A4.out).mono ?_); rintro e w' ⟨rfl, ⟨nd, rfl⟩⟩; refine ⟨_, rfl, ?_⟩) | (go_at_call 52; (with_reducible refine (date_Valid.calls a1 t107 _ A6.out).mono ?_); rintro e w' ⟨rfl, ⟨nd, rfl⟩⟩))
      go_meet
      case rel => exact ⟨_, (!t107), (by first | rfl | (simp; done) | (simp [*]; done)), H', ⟨by first | omega | exact Nat.le_refl _⟩, ⟨hq HB⟩⟩
    · replace c5 := Bool.eq_false_iff.mpr c5
      subst c5
      have H1 : (daycount_Thirty.j0 k a0 a1 true) = some r := by rw [if_neg (show ¬ (false = true) by decide)] at H; exact H
      clear H
      have H := H1
      clear H1
      have H' := Aside0.mk H
      clear H
      go_wp2_with (first | ((with_reducible refine gate_callee (f := 52) rfl ?_); refine goesL_ (some 12) rfl rfl Try.func52 (by kernel_rfl) rfl #[.int .i64 a0] rfl zm ?_; (with_reducible refine (date_Valid.calls a0 false _ A4.out).mono ?_); rintro e w' ⟨rfl, ⟨nd, rfl⟩⟩; refine ⟨_, rfl, ?_⟩))
      go_meet
      case rel => exact ⟨_, (true), (by first | rfl | (simp; done) | (simp [*]; done)), H', ⟨by first | omega | exact Nat.le_refl _⟩, ⟨hq HB⟩⟩
  case rest =>
    clear HC3
    try clear c1
    try clear p2
    try clear c5
    obtain ⟨kq, x18_2, rfl, HA, HJ2, HB⟩ := hcut
    cases kq with
    | zero => exact absurd HA.out (by simp [daycount_Thirty.j0])
    | succ kj2 =>
      have H := HA.out
      clear HA
      simp only [daycount_Thirty.j0] at H
      by_cases c7 : x18_2 = true
      · subst c7
        have H1 : (some 0) = some r := by rw [if_pos rfl] at H; exact H
        clear H
        have H := H1
        clear H1
        obtain rfl := Option.some.inj H
        go_wp2
        go_ret
        exact ⟨by first | rfl | (simp [errW_none, errW_some] <;> rfl) | (simp [*, errW_none, errW_some] <;> rfl), hq HB⟩
      · replace c7 := Bool.eq_false_iff.mpr c7
        subst c7
        have H1 : ((date_Civil.f kj2 a0).bind fun bt108 => ((date_Civil.f kj2 a1).bind fun bt111 => (some (wrap64 ((wrap64 ((wrap64 ((wrap64 (360 * (wrap64 (bt111.1 - bt108.1)))) + (wrap64 (30 * (wrap64 (bt111.2.1 - bt108.2.1)))))) + (mn bt111.2.2 30))) - (mn bt108.2.2 30)))))) = some r := by rw [if_neg (show ¬ (false = true) by decide)] at H; exact H
        clear H
        have H := H1
        clear H1
        replace H := Option.bind_eq_some_iff.mp H
        obtain ⟨⟨t108, t109, t110⟩, A80, H⟩ := H
        replace H : ((date_Civil.f kj2 a1).bind fun bt111 => (some (wrap64 ((wrap64 ((wrap64 ((wrap64 (360 * (wrap64 (bt111.1 - t108)))) + (wrap64 (30 * (wrap64 (bt111.2.1 - t109)))))) + (mn bt111.2.2 30))) - (mn t110 30))))) = some r := H
        have A8 := Aside0.mk A80
        clear A80
        replace H := Option.bind_eq_some_iff.mp H
        obtain ⟨⟨t111, t112, t113⟩, A90, H⟩ := H
        replace H : (some (wrap64 ((wrap64 ((wrap64 ((wrap64 (360 * (wrap64 (t111 - t108)))) + (wrap64 (30 * (wrap64 (t112 - t109)))))) + (mn t113 30))) - (mn t110 30)))) = some r := H
        have A9 := Aside0.mk A90
        clear A90
        obtain ⟨ji10, hji10⟩ : ∃ j_ : Int, (mn t113 30) = j_ := ⟨_, rfl⟩
        replace H : (some (wrap64 ((wrap64 ((wrap64 ((wrap64 (360 * (wrap64 (t111 - t108)))) + (wrap64 (30 * (wrap64 (t112 - t109)))))) + (ji10))) - (mn t110 30)))) = some r := by first | (rw [hji10] at H; exact H) | (simp only [hji10] at H ⊢; exact H)
        (try rw [hji10] at A8)
        (try rw [hji10] at A9)
        (try (have hji10h : ji10 ≤ 30 := by (rw [← hji10]; unfold mn; (repeat' split) <;> omega)))
        (try (have hji10g : ji10 ≤ 64 := by omega))
        have hji10_ : (if 30 < t113 then 30 else t113) = ji10 := hji10
        obtain ⟨ji11, hji11⟩ : ∃ j_ : Int, (mn t110 30) = j_ := ⟨_, rfl⟩
        replace H : (some (wrap64 ((wrap64 ((wrap64 ((wrap64 (360 * (wrap64 (t111 - t108)))) + (wrap64 (30 * (wrap64 (t112 - t109)))))) + (ji10))) - (ji11)))) = some r := by first | (rw [hji11] at H; exact H) | (simp only [hji11] at H ⊢; exact H)
        (try rw [hji11] at A8)
        (try rw [hji11] at A9)
        (try (have hji11h : ji11 ≤ 30 := by (rw [← hji11]; unfold mn; (repeat' split) <;> omega)))
        (try (have hji11g : ji11 ≤ 64 := by omega))
        have hji11_ : (if 30 < t110 then 30 else t110) = ji11 := hji11
        obtain rfl := Option.some.inj H
        go_wp2_with (first | ((with_reducible refine gate_callee (f := 98) rfl ?_); refine goesL_ (some 21) rfl rfl Try.func98 (by kernel_rfl) rfl #[.int .i64 a0] rfl zm ?_; (with_reducible refine (date_Civil.calls kj2 a0 t108 t109 t110 _ A8.out).mono ?_); rintro e w12 ⟨rfl, hb⟩; refine ⟨_, rfl, ?_⟩; replace HB := bs HB hb; (try clear hb); (try clear hb2); (try clear hk); (try clear hi)) | ((with_reducible refine gate_callee (f := 98) rfl ?_); refine goesL_ (some 27) rfl rfl Try.func98 (by kernel_rfl) rfl #[.int .i64 a1] rfl zm ?_; (with_reducible refine (date_Civil.calls kj2 a1 t111 t112 t113 _ A9.out).mono ?_); rintro e w13 ⟨rfl, hb⟩; refine ⟨_, rfl, ?_⟩; replace HB := bs HB hb; (try clear hb); (try clear hb2); (try clear hk); (try clear hi)))
        go_ret
        exact ⟨by first | rfl | (simp [errW_none, errW_some] <;> rfl) | (simp only [← hji10, ← hji11]; first | rfl | (simp [errW_none, errW_some] <;> rfl)) | (simp [*, errW_none, errW_some] <;> rfl), hq HB⟩

end Go.Proofs.Ytlmabdiodopidaa.P
end
