/- Texts of this seat, joined: Px24, Px25, Px26, Tot, Day, Ser, SamA, Box, Live27, Few, Px3. Lemmas for the claim's theorem. -/
import Derived.OwnWalk
import Derived.Deep.RegionHeld3
import Derived.Test.YtlmabdiodopidaaJ8
section
set_option linter.unusedVariables false
set_option linter.unusedSimpArgs false
namespace Go.Proofs.Ytlmabdiodopidaa.P
open Go.Proofs.Ytlmabdiodopidaa.G
attribute [local go_sem high] un_not64 un_noti run_add64
open Go.RowKit Go.Proofs.YtlmabdiodopidaaW.PrintWords Go.Proofs.YtlmabdiodopidaaW.PrintLast Go.Proofs.YtlmabdiodopidaaW.PrintMore
attribute [local go_sem] max2_int min2_int max_two min_two max_three min_three max_four min_four   -- for this text's walks alone
set_option linter.unusedVariables false
set_option linter.unusedSimpArgs false

/-! ### corebankref01_Less: function 71 -/
def corebankref01_Less.f (a0_0 : Int) (a0_1 : Int) (a1_0 : Int) (a1_1 : Int) : Option (Bool) := if a0_0 < a1_0 then (some true) else (if a0_0 = a1_0 then (some (decide (a0_1 < a1_1))) else (some false))
set_option maxHeartbeats 8000000 in
set_option maxRecDepth 100000 in
theorem corebankref01_Less.calls (a0_0 : Int) (a0_1 : Int) (a1_0 : Int) (a1_1 : Int) (r : Bool) (w : World) (h : corebankref01_Less.f a0_0 a0_1 a1_0 a1_1 = some r) :
    Calls Try.prog 71 #[.agg #[.int .u64 a0_0, .int .u64 a0_1], .agg #[.int .u64 a1_0, .int .u64 a1_1]] w fun e w' => e = .returned (.bool r) ∧ Below w.heap.size w w' := by
  have hu89 := Try.underlying89
  have HB := Aside0.mk (Below.refl w.heap.size w)
  have H : (if a0_0 < a1_0 then (some true) else (if a0_0 = a1_0 then (some (decide (a0_1 < a1_1))) else (some false))) = some r := h
  clear h
  by_cases c3 : a0_0 < a1_0
  · rw [if_pos c3] at H
    have c3b0 : decide (a0_0 < a1_0) = true := decide_eq_true c3
    clear c3
    obtain rfl := Option.some.inj H
    go_enter Try.func71, Try.ntmps71
    go_wp2_with (first | ((with_reducible refine gate_dst (N := 2) rfl ?_); refine box_event ?hg (N := 2) ?hd (cs := #[.int .u64 a0_0, .int .u64 a0_1]) (t := 89) ?hr ?_; (case hd => rfl); (case hg => rfl); (case hr => first | (go_simp; done) | (go_simp; rfl)); intro gb296 hg w4 hbox hb; have BK296 := Aside0.mk (hbox); have GW296 := ge HB hg; have GE296 := ge HB hg; replace HB := bs HB hb; clear hb hbox hg) | ((with_reducible refine gate_dst (N := 3) rfl ?_); refine box_event ?hg (N := 3) ?hd (cs := #[.int .u64 a1_0, .int .u64 a1_1]) (t := 89) ?hr ?_; (case hd => rfl); (case hg => rfl); (case hr => first | (go_simp; done) | (go_simp; rfl)); intro gb297 hg w5 hbox hb; have BK297 := Aside0.mk (hbox); have GW297 := ge HB hg; have GE297 := ge HB hg; have NB296_297 := nl BK296 hg; have NB297_296 := ng NB296_297; replace BK296 := bb BK296 hb; replace HB := bs HB hb; clear hb hbox hg; have hnb6 := NB296_297.out; have hnc6 := NB297_296.out; obtain ⟨hcz7_0, hcz7_1, hfz7_0, hfz7_1⟩ := cz2 BK296; obtain ⟨hcz8_0, hcz8_1, hfz8_0, hfz8_1⟩ := cz2 BK297))
    go_ret
    exact ⟨by first | rfl | (simp [errW_none, errW_some] <;> rfl) | (simp [*, errW_none, errW_some] <;> rfl), hq HB⟩
  · rw [if_neg c3] at H
    have c3b0 : decide (a0_0 < a1_0) = false := decide_eq_false c3
    clear c3
    by_cases c9 : a0_0 = a1_0
    · rw [if_pos c9] at H
      have c9b0 : (a0_0 == a1_0) = true := beq_iff_eq.mpr c9
      have c9b1 : (a0_0 != a1_0) = false := bne_eq_false_iff_eq.mpr c9
      clear c9
      obtain rfl := Option.some.inj H
      go_enter Try.func71, Try.ntmps71
      go_wp2_with (first | ((with_reducible refine gate_dst (N := 2) rfl ?_); refine box_event ?hg (N := 2) ?hd (cs := #[.int .u64 a0_0, .int .u64 a0_1]) (t := 89) ?hr ?_; (case hd => rfl); (case hg => rfl); (case hr => first | (go_simp; done) | (go_simp; rfl)); intro gb296 hg w10 hbox hb; have BK296 := Aside0.mk (hbox); have GW296 := ge HB hg; have GE296 := ge HB hg; replace HB := bs HB hb; clear hb hbox hg) | ((with_reducible refine gate_dst (N := 3) rfl ?_); refine box_event ?hg (N := 3) ?hd (cs := #[.int .u64 a1_0, .int .u64 a1_1]) (t := 89) ?hr ?_; (case hd => rfl); (case hg => rfl); (case hr => first | (go_simp; done) | (go_simp; rfl)); intro gb297 hg w11 hbox hb; have BK297 := Aside0.mk (hbox); have GW297 := ge HB hg; have GE297 := ge HB hg; have NB296_297 := nl BK296 hg; have NB297_296 := ng NB296_297; replace BK296 := bb BK296 hb; replace HB := bs HB hb; clear hb hbox hg; have hnb12 := NB296_297.out; have hnc12 := NB297_296.out; obtain ⟨hcz13_0, hcz13_1, hfz13_0, hfz13_1⟩ := cz2 BK296; obtain ⟨hcz14_0, hcz14_1, hfz14_0, hfz14_1⟩ := cz2 BK297))
      go_ret
      exact ⟨by first | rfl | (simp [errW_none, errW_some] <;> rfl) | (simp [*, errW_none, errW_some] <;> rfl), hq HB⟩
    · rw [if_neg c9] at H
      have c9b0 : (a0_0 == a1_0) = false := beq_eq_false_iff_ne.mpr c9
      have c9b1 : (a0_0 != a1_0) = true := bne_iff_ne.mpr c9
      obtain rfl := Option.some.inj H
      go_enter Try.func71, Try.ntmps71
      go_wp2_with (first | ((with_reducible refine gate_dst (N := 2) rfl ?_); refine box_event ?hg (N := 2) ?hd (cs := #[.int .u64 a0_0, .int .u64 a0_1]) (t := 89) ?hr ?_; (case hd => rfl); (case hg => rfl); (case hr => first | (go_simp; done) | (go_simp; rfl)); intro gb296 hg w15 hbox hb; have BK296 := Aside0.mk (hbox); have GW296 := ge HB hg; have GE296 := ge HB hg; replace HB := bs HB hb; clear hb hbox hg) | ((with_reducible refine gate_dst (N := 3) rfl ?_); refine box_event ?hg (N := 3) ?hd (cs := #[.int .u64 a1_0, .int .u64 a1_1]) (t := 89) ?hr ?_; (case hd => rfl); (case hg => rfl); (case hr => first | (go_simp; done) | (go_simp; rfl)); intro gb297 hg w16 hbox hb; have BK297 := Aside0.mk (hbox); have GW297 := ge HB hg; have GE297 := ge HB hg; have NB296_297 := nl BK296 hg; have NB297_296 := ng NB296_297; replace BK296 := bb BK296 hb; replace HB := bs HB hb; clear hb hbox hg; have hnb17 := NB296_297.out; have hnc17 := NB297_296.out; obtain ⟨hcz18_0, hcz18_1, hfz18_0, hfz18_1⟩ := cz2 BK296; obtain ⟨hcz19_0, hcz19_1, hfz19_0, hfz19_1⟩ := cz2 BK297))
      go_ret
      exact ⟨by first | rfl | (simp [errW_none, errW_some] <;> rfl) | (simp [*, errW_none, errW_some] <;> rfl), hq HB⟩

/-! ### corebankref01_minus: function 72 -/
def corebankref01_minus.f (a0_0 : Int) (a0_1 : Int) (a1_0 : Int) (a1_1 : Int) : Option (Int × Int) := if a0_1 < a1_1 then (some (IntKind.u64.wrap ((IntKind.u64.wrap (a0_0 - a1_0)) - 1), IntKind.u64.wrap (a0_1 - a1_1))) else (some (IntKind.u64.wrap (a0_0 - a1_0), IntKind.u64.wrap (a0_1 - a1_1)))
set_option maxHeartbeats 8000000 in
set_option maxRecDepth 100000 in
theorem corebankref01_minus.calls (a0_0 : Int) (a0_1 : Int) (a1_0 : Int) (a1_1 : Int) (r1 : Int) (r2 : Int) (w : World) (h : corebankref01_minus.f a0_0 a0_1 a1_0 a1_1 = some (r1, r2)) :
    Calls Try.prog 72 #[.agg #[.int .u64 a0_0, .int .u64 a0_1], .agg #[.int .u64 a1_0, .int .u64 a1_1]] w fun e w' => e = .returned (.agg #[.int .u64 r1, .int .u64 r2]) ∧ Below w.heap.size w w' := by
  have hu89 := Try.underlying89
  have HB := Aside0.mk (Below.refl w.heap.size w)
  have H : (if a0_1 < a1_1 then (some (IntKind.u64.wrap ((IntKind.u64.wrap (a0_0 - a1_0)) - 1), IntKind.u64.wrap (a0_1 - a1_1))) else (some (IntKind.u64.wrap (a0_0 - a1_0), IntKind.u64.wrap (a0_1 - a1_1)))) = some (r1, r2) := h
  clear h
  by_cases c3 : a0_1 < a1_1
  · rw [if_pos c3] at H
    have c3b0 : decide (a0_1 < a1_1) = true := decide_eq_true c3
    clear c3
    simp only [Option.some.injEq, Prod.mk.injEq] at H
    obtain ⟨rfl, rfl⟩ := H
    go_enter Try.func72, Try.ntmps72
    go_wp2_with (first | ((with_reducible refine gate_dst (N := 2) rfl ?_); refine box_event ?hg (N := 2) ?hd (cs := #[.int .u64 a0_0, .int .u64 a0_1]) (t := 89) ?hr ?_; (case hd => rfl); (case hg => rfl); (case hr => first | (go_simp; done) | (go_simp; rfl)); intro gb298 hg w4 hbox hb; have BK298 := Aside0.mk (hbox); have GW298 := ge HB hg; have GE298 := ge HB hg; replace HB := bs HB hb; clear hb hbox hg) | ((with_reducible refine gate_dst (N := 3) rfl ?_); refine box_event ?hg (N := 3) ?hd (cs := #[.int .u64 a1_0, .int .u64 a1_1]) (t := 89) ?hr ?_; (case hd => rfl); (case hg => rfl); (case hr => first | (go_simp; done) | (go_simp; rfl)); intro gb299 hg w5 hbox hb; have BK299 := Aside0.mk (hbox); have GW299 := ge HB hg; have GE299 := ge HB hg; have NB298_299 := nl BK298 hg; have NB299_298 := ng NB298_299; replace BK298 := bb BK298 hb; replace HB := bs HB hb; clear hb hbox hg) | ((with_reducible refine gate_dst (N := 4) rfl ?_); refine box_event ?hg (N := 4) ?hd (cs := #[.int .u64 0, .int .u64 0]) (t := 89) ?hr ?_; (case hd => rfl); (case hg => rfl); (case hr => first | (go_simp; done) | (go_simp; rfl)); intro gb300 hg w6 hbox hb; have BK300 := Aside0.mk (hbox); have GW300 := ge HB hg; have GE300 := ge HB hg; have NB298_300 := nl BK298 hg; have NB300_298 := ng NB298_300; have NB299_300 := nl BK299 hg; have NB300_299 := ng NB299_300; replace BK298 := bb BK298 hb; replace BK299 := bb BK299 hb; replace HB := bs HB hb; clear hb hbox hg; have hnb7 := NB298_299.out; have hnc7 := NB299_298.out; have hnb8 := NB298_300.out; have hnc8 := NB300_298.out; obtain ⟨hcz9_0, hcz9_1, hfz9_0, hfz9_1⟩ := cz2 BK298; have hnb10 := NB299_300.out; have hnc10 := NB300_299.out; obtain ⟨hcz11_0, hcz11_1, hfz11_0, hfz11_1⟩ := cz2 BK299; obtain ⟨hcz12_0, hcz12_1, hfz12_0, hfz12_1⟩ := cz2 BK300))
    refine bodyPost_ret (results_cell_row rfl _ _ gb300 89 #[.int .u64 (IntKind.u64.wrap ((IntKind.u64.wrap (a0_0 - a1_0)) - 1)), .int .u64 (IntKind.u64.wrap (a0_1 - a1_1))] (0, 0) _ rfl (bp BK300) Try.underlying89 rfl (by kernel_rfl)) rfl ?_
    exact ⟨by first | rfl | (simp [errW_none, errW_some] <;> rfl) | (simp [*, errW_none, errW_some] <;> rfl), hq HB⟩
  · rw [if_neg c3] at H
    have c3b0 : decide (a0_1 < a1_1) = false := decide_eq_false c3
    clear c3
    simp only [Option.some.injEq, Prod.mk.injEq] at H
    obtain ⟨rfl, rfl⟩ := H
    go_enter Try.func72, Try.ntmps72
    go_wp2_with (first | ((with_reducible refine gate_dst (N := 2) rfl ?_); refine box_event ?hg (N := 2) ?hd (cs := #[.int .u64 a0_0, .int .u64 a0_1]) (t := 89) ?hr ?_; (case hd => rfl); (case hg => rfl); (case hr => first | (go_simp; done) | (go_simp; rfl)); intro gb298 hg w13 hbox hb; have BK298 := Aside0.mk (hbox); have GW298 := ge HB hg; have GE298 := ge HB hg; replace HB := bs HB hb; clear hb hbox hg) | ((with_reducible refine gate_dst (N := 3) rfl ?_); refine box_event ?hg (N := 3) ?hd (cs := #[.int .u64 a1_0, .int .u64 a1_1]) (t := 89) ?hr ?_; (case hd => rfl); (case hg => rfl); (case hr => first | (go_simp; done) | (go_simp; rfl)); intro gb299 hg w14 hbox hb; have BK299 := Aside0.mk (hbox); have GW299 := ge HB hg; have GE299 := ge HB hg; have NB298_299 := nl BK298 hg; have NB299_298 := ng NB298_299; replace BK298 := bb BK298 hb; replace HB := bs HB hb; clear hb hbox hg) | ((with_reducible refine gate_dst (N := 4) rfl ?_); refine box_event ?hg (N := 4) ?hd (cs := #[.int .u64 0, .int .u64 0]) (t := 89) ?hr ?_; (case hd => rfl); (case hg => rfl); (case hr => first | (go_simp; done) | (go_simp; rfl)); intro gb300 hg w15 hbox hb; have BK300 := Aside0.mk (hbox); have GW300 := ge HB hg; have GE300 := ge HB hg; have NB298_300 := nl BK298 hg; have NB300_298 := ng NB298_300; have NB299_300 := nl BK299 hg; have NB300_299 := ng NB299_300; replace BK298 := bb BK298 hb; replace BK299 := bb BK299 hb; replace HB := bs HB hb; clear hb hbox hg; have hnb16 := NB298_299.out; have hnc16 := NB299_298.out; have hnb17 := NB298_300.out; have hnc17 := NB300_298.out; obtain ⟨hcz18_0, hcz18_1, hfz18_0, hfz18_1⟩ := cz2 BK298; have hnb19 := NB299_300.out; have hnc19 := NB300_299.out; obtain ⟨hcz20_0, hcz20_1, hfz20_0, hfz20_1⟩ := cz2 BK299; obtain ⟨hcz21_0, hcz21_1, hfz21_0, hfz21_1⟩ := cz2 BK300))
    refine bodyPost_ret (results_cell_row rfl _ _ gb300 89 #[.int .u64 (IntKind.u64.wrap (a0_0 - a1_0)), .int .u64 (IntKind.u64.wrap (a0_1 - a1_1))] (0, 0) _ rfl (bp BK300) Try.underlying89 rfl (by kernel_rfl)) rfl ?_
    exact ⟨by first | rfl | (simp [errW_none, errW_some] <;> rfl) | (simp [*, errW_none, errW_some] <;> rfl), hq HB⟩

end Go.Proofs.Ytlmabdiodopidaa.P
end
section
set_option linter.unusedVariables false
set_option linter.unusedSimpArgs false
namespace Go.Proofs.Ytlmabdiodopidaa.P
open Go.Proofs.Ytlmabdiodopidaa.G
attribute [local go_sem high] un_not64 un_noti run_add64
open Go.RowKit Go.Proofs.YtlmabdiodopidaaW.PrintWords Go.Proofs.YtlmabdiodopidaaW.PrintLast Go.Proofs.YtlmabdiodopidaaW.PrintMore
attribute [local go_sem] max2_int min2_int max_two min_two max_three min_three max_four min_four   -- for this text's walks alone
set_option linter.unusedVariables false
set_option linter.unusedSimpArgs false

/-! ### corebankref01_sum: function 49 -/
def corebankref01_sum.f (a0 : Bool) (a1_0 : Int) (a1_1 : Int) (a2 : Bool) (a3_0 : Int) (a3_1 : Int) : Option (Int × Int × Int) := if (a0 == a2) = true then ((corebankref01_plus.f a1_0 a1_1 a3_0 a3_1).bind fun bt305 => ((corebankref01_Join.f a0 bt305.1 bt305.2.1).bind fun bt308 => (if bt305.2.2 = true then (if bt308.2.2 = true then (some (bt308.1, bt308.2.1, 0)) else (some (0, 0, 6))) else (some (0, 0, 6))))) else ((corebankref01_Less.f a1_0 a1_1 a3_0 a3_1).bind fun t312 => (if t312 = true then ((corebankref01_minus.f a3_0 a3_1 a1_0 a1_1).bind fun bt313 => ((corebankref01_Join.f a2 bt313.1 bt313.2).bind fun bt315 => (if bt315.2.2 = true then (some (bt315.1, bt315.2.1, 0)) else (some (0, 0, 6))))) else ((corebankref01_minus.f a1_0 a1_1 a3_0 a3_1).bind fun bt319 => ((corebankref01_Join.f a0 bt319.1 bt319.2).bind fun bt321 => (if bt321.2.2 = true then (some (bt321.1, bt321.2.1, 0)) else (some (0, 0, 6)))))))
set_option maxHeartbeats 8000000 in
set_option maxRecDepth 100000 in
theorem corebankref01_sum.calls (a0 : Bool) (a1_0 : Int) (a1_1 : Int) (a2 : Bool) (a3_0 : Int) (a3_1 : Int) (r1 : Int) (r2 : Int) (r3 : Int) (w : World) (h : corebankref01_sum.f a0 a1_0 a1_1 a2 a3_0 a3_1 = some (r1, r2, r3)) :
    Calls Try.prog 49 #[.bool a0, .agg #[.int .u64 a1_0, .int .u64 a1_1], .bool a2, .agg #[.int .u64 a3_0, .int .u64 a3_1]] w fun e w' => e = .returned (.tuple #[.agg #[.int .i64 r1, .int .u64 r2], .int .i64 r3]) ∧ Below w.heap.size w w' := by
  have hu89 := Try.underlying89
  have hu35 := Try.underlying35
  have HB := Aside0.mk (Below.refl w.heap.size w)
  have H : (if (a0 == a2) = true then ((corebankref01_plus.f a1_0 a1_1 a3_0 a3_1).bind fun bt305 => ((corebankref01_Join.f a0 bt305.1 bt305.2.1).bind fun bt308 => (if bt305.2.2 = true then (if bt308.2.2 = true then (some (bt308.1, bt308.2.1, 0)) else (some (0, 0, 6))) else (some (0, 0, 6))))) else ((corebankref01_Less.f a1_0 a1_1 a3_0 a3_1).bind fun t312 => (if t312 = true then ((corebankref01_minus.f a3_0 a3_1 a1_0 a1_1).bind fun bt313 => ((corebankref01_Join.f a2 bt313.1 bt313.2).bind fun bt315 => (if bt315.2.2 = true then (some (bt315.1, bt315.2.1, 0)) else (some (0, 0, 6))))) else ((corebankref01_minus.f a1_0 a1_1 a3_0 a3_1).bind fun bt319 => ((corebankref01_Join.f a0 bt319.1 bt319.2).bind fun bt321 => (if bt321.2.2 = true then (some (bt321.1, bt321.2.1, 0)) else (some (0, 0, 6)))))))) = some (r1, r2, r3) := h
  clear h
  by_cases c5 : (a0 == a2) = true
  · rw [if_pos c5] at H
    have c5b0 : (a0 == a2) = true := c5
    (try (have c5b1 : decide (a0 = a2) = true := by simpa using c5))
    (try (have c5b2 : (a0 == a2) = true := by simpa using c5))
    clear c5
    replace H := Option.bind_eq_some_iff.mp H
    obtain ⟨⟨t305, t306, t307⟩, A60, H⟩ := H
    replace H : ((corebankref01_Join.f a0 t305 t306).bind fun bt308 => (if t307 = true then (if bt308.2.2 = true then (some (bt308.1, bt308.2.1, 0)) else (some (0, 0, 6))) else (some (0, 0, 6)))) = some (r1, r2, r3) := H
    have A6 := Aside0.mk A60
    clear A60
    replace H := Option.bind_eq_some_iff.mp H
    obtain ⟨⟨t308, t309, t310⟩, A70, H⟩ := H
    replace H : (if t307 = true then (if t310 = true then (some (t308, t309, 0)) else (some (0, 0, 6))) else (some (0, 0, 6))) = some (r1, r2, r3) := H
    have A7 := Aside0.mk A70
    clear A70
    by_cases c8 : t307 = true
    · subst c8
      have H1 : (if t310 = true then (some (t308, t309, 0)) else (some (0, 0, 6))) = some (r1, r2, r3) := by rw [if_pos rfl] at H; exact H
      clear H
      have H := H1
      clear H1
      by_cases c9 : t310 = true
      · subst c9
        have H1 : (some (t308, t309, 0)) = some (r1, r2, r3) := by rw [if_pos rfl] at H; exact H
        clear H
        have H := H1
        clear H1
        simp only [Option.some.injEq, Prod.mk.injEq] at H
        obtain ⟨rfl, rfl, rfl⟩ := H
        go_enter Try.func49, Try.ntmps49
        try go_wp2_with (first | ((with_reducible refine gate_dst (N := 5) rfl ?_); refine box_event ?hg (N := 5) ?hd (cs := #[.int .u64 a1_0, .int .u64 a1_1]) (t := 89) ?hr ?_; (case hd => rfl); (case hg => rfl); (case hr => first | (go_simp; done) | (go_simp; rfl)); intro gb301 hg w10 hbox hb; have BK301 := Aside0.mk (hbox); have GW301 := ge HB hg; have GE301 := ge HB hg; replace HB := bs HB hb; clear hb hbox hg) | ((with_reducible refine gate_dst (N := 7) rfl ?_); refine box_event ?hg (N := 7) ?hd (cs := #[.int .u64 a3_0, .int .u64 a3_1]) (t := 89) ?hr ?_; (case hd => rfl); (case hg => rfl); (case hr => first | (go_simp; done) | (go_simp; rfl)); intro gb302 hg w11 hbox hb; have BK302 := Aside0.mk (hbox); have GW302 := ge HB hg; have GE302 := ge HB hg; have NB301_302 := nl BK301 hg; have NB302_301 := ng NB301_302; replace BK301 := bb BK301 hb; replace HB := bs HB hb; clear hb hbox hg) | ((with_reducible refine gate_dst (N := 8) rfl ?_); refine box_event ?hg (N := 8) ?hd (cs := #[.int .i64 0, .int .u64 0]) (t := 35) ?hr ?_; (case hd => rfl); (case hg => rfl); (case hr => first | (go_simp; done) | (go_simp; rfl)); intro gb303 hg w12 hbox hb; have BK303 := Aside0.mk (hbox); have GW303 := ge HB hg; have GE303 := ge HB hg; have NB301_303 := nl BK301 hg; have NB303_301 := ng NB301_303; have NB302_303 := nl BK302 hg; have NB303_302 := ng NB302_303; replace BK301 := bb BK301 hb; replace BK302 := bb BK302 hb; replace HB := bs HB hb; clear hb hbox hg))
        replace BK301 := bd1 BK301
        replace BK302 := bd1 BK302
        replace BK303 := bd1 BK303
        replace HB := hb1 HB
        refine start_ (n := 6) (S := fun w' => w'.cell? ⟨gb301, 0, none⟩ = some (.int .u64 a1_0) ∧ w'.cell? ⟨gb301, 1, none⟩ = some (.int .u64 a1_1)) (ds := []) #[false, false, false, false, false, false] (by kernel_rfl) rfl rfl ⟨(blk_cell BK301.out 0).trans rfl, (blk_cell BK301.out 1).trans rfl⟩ (fun hHeld => ?_)
        generalize w12.drew = w13 at BK301 BK302 BK303 HB hHeld ⊢
        refine pure_ (i := 0) (N := some 15) (v := ?_) (a' := ?_) #[true, false, false, false, false, false] rfl rfl (by kernel_rfl) (fun _ _ _ h => h) (Or.inl ⟨by rfl, ?_⟩) ?_ ?_
        rotate_left
        · intro w'
          go_simp
          with_reducible rfl
        rotate_left
        · simp only [Act.put, List.setIfInBounds_toArray, List.set_cons_zero, List.set_cons_succ, i64_w, i32_w]
          rfl
        refine take_ (i := 1) (N := some 16) (v := ?_) (a' := ?_) #[true, true, false, false, false, false] rfl rfl (by kernel_rfl) (fun _ _ _ h => h) (Or.inl ⟨by rfl, ?_⟩) hHeld ?_ ?_
        rotate_left
        · rintro w' ⟨s0, s1⟩
          go_simp
          with_reducible rfl
        rotate_left
        · simp only [Act.put, List.setIfInBounds_toArray, List.set_cons_zero, List.set_cons_succ, i64_w, i32_w]
          rfl
        refine one_ (i := 2) (N := some 11) #[true, true, true, false, false, false] rfl rfl (by kernel_rfl) (by decide) (fun K hK => ?_)
        refine box_step ?hg (N := 11) ?hd (cs := #[.int .u64 0, .int .u64 0]) (t := 89) ?hr ?_; (case hd => rfl); (case hg => rfl); (case hr => first | (go_simp; done) | (go_simp; rfl))
        intro gb304 hg w14 hbox hb
        have BK304 := Aside0.mk (hbox)
        have GW304 := ge HB hg
        have GE304 := ge HB hg
        have NB301_304 := nl BK301 hg
        have NB304_301 := ng NB301_304
        have NB302_304 := nl BK302 hg
        have NB304_302 := ng NB302_304
        have NB303_304 := nl BK303 hg
        have NB304_303 := ng NB303_304
        replace BK301 := bb BK301 hb
        replace BK302 := bb BK302 hb
        replace BK303 := bb BK303 hb
        replace HB := bs HB hb
        clear hb hbox hg
        refine hK.out _ _ ⟨(blk_cell BK301.out 0).trans rfl, (blk_cell BK301.out 1).trans rfl⟩ (fun hHeld => ?_)
        clear hK K
        refine norm_ (a' := ?_) ?_ ?_
        rotate_left
        · show Act.put _ (some 11) _ = _
          simp only [Act.put, List.setIfInBounds_toArray, List.set_cons_zero, List.set_cons_succ, i64_w, i32_w]
          rfl
        refine pure_ (i := 3) (N := some 10) (v := ?_) (a' := ?_) #[true, true, true, true, false, false] rfl rfl (by kernel_rfl) (fun _ _ _ h => h) (Or.inl ⟨by rfl, ?_⟩) ?_ ?_
        rotate_left
        · intro w'
          go_simp
          with_reducible rfl
        rotate_left
        · simp only [Act.put, List.setIfInBounds_toArray, List.set_cons_zero, List.set_cons_succ, i64_w, i32_w]
          rfl
        refine one_ (i := 4) (N := none) #[true, true, true, true, true, false] rfl rfl (by kernel_rfl) (by decide) (fun K hK => ?_)
        have hs15 : w14.cell? ⟨gb304, 0, none⟩ = some (.int .u64 0) := (blk_cell BK304.out 0).trans rfl
        have hfs15 := blk_frozen BK304.out 0
        have hns15_0 := NB301_304.out
        have hns15_1 := NB302_304.out
        have hns15_2 := NB303_304.out
        have hms15_0 := NB304_301.out
        have hms15_1 := NB304_302.out
        have hms15_2 := NB304_303.out
        have hs16 : w14.cell? ⟨gb304, 1, none⟩ = some (.int .u64 0) := (blk_cell BK304.out 1).trans rfl
        have hfs16 := blk_frozen BK304.out 1
        have hns16_0 := NB301_304.out
        have hns16_1 := NB302_304.out
        have hns16_2 := NB303_304.out
        have hms16_0 := NB304_301.out
        have hms16_1 := NB304_302.out
        have hms16_2 := NB304_303.out
        refine skip_ (w1 := ?_) (by rfl) rfl ?_ ?_
        rotate_left
        · go_simp
          rfl
        refine hK.out _ _ ⟨((cell_far (p := ⟨gb304, _, none⟩) NB301_304.out _).trans (((cell_far (p := ⟨gb304, _, none⟩) NB301_304.out _).trans (hHeld.1)))), ((cell_far (p := ⟨gb304, _, none⟩) NB301_304.out _).trans (((cell_far (p := ⟨gb304, _, none⟩) NB301_304.out _).trans (hHeld.2))))⟩ (fun hHeld => ?_)
        clear hK K
        refine pure_ (i := 5) (N := some 12) (v := ?_) (a' := ?_) #[true, true, true, true, true, true] rfl rfl (by kernel_rfl) (fun _ _ _ h => h) (Or.inl ⟨by rfl, ?_⟩) ?_ ?_
        rotate_left
        · intro w'
          go_simp
          with_reducible rfl
        rotate_left
        · simp only [Act.put, List.setIfInBounds_toArray, List.set_cons_zero, List.set_cons_succ, i64_w, i32_w]
          rfl
        refine done_ (by kernel_rfl) ?_
        have hnb17 := NB301_302.out
        have hnc17 := NB302_301.out
        have hnb18 := NB301_303.out
        have hnc18 := NB303_301.out
        have hnb19 := NB301_304.out
        have hnc19 := NB304_301.out
        obtain ⟨hcz20_0, hcz20_1, hfz20_0, hfz20_1⟩ := cz2 BK301
        have hnb21 := NB302_303.out
        have hnc21 := NB303_302.out
        have hnb22 := NB302_304.out
        have hnc22 := NB304_302.out
        obtain ⟨hcz23_0, hcz23_1, hfz23_0, hfz23_1⟩ := cz2 BK302
        try go_wp2_with (first | ((with_reducible refine gate_callee (f := 70) rfl ?_); refine goesL_ (some 27) rfl rfl Try.func70 (by kernel_rfl) rfl #[.agg #[.int .u64 a1_0, .int .u64 a1_1], .agg #[.int .u64 a3_0, .int .u64 a3_1]] rfl zm ?_; (with_reducible refine (corebankref01_plus.calls a1_0 a1_1 a3_0 a3_1 t305 t306 true _ A6.out).mono ?_); rintro e w24 ⟨rfl, hb⟩; refine ⟨_, rfl, ?_⟩; replace BK301 := bb BK301 hb; replace BK302 := bb BK302 hb; replace BK303 := bb BK303 hb; replace BK304 := bpb BK304 hb #[.int .u64 a1_0, .int .u64 a1_1]; replace HB := bs HB hb; (try clear hb); (try clear hb2); (try clear hk); (try clear hi); have hnb25 := NB304_303.out; have hnc25 := NB303_304.out; obtain ⟨hcz26_0, hcz26_1, hfz26_0, hfz26_1⟩ := cz2 BK304) | ((with_reducible refine gate_callee (f := 69) rfl ?_); refine goesL_ (some 41) rfl rfl Try.func69 (by kernel_rfl) rfl #[.bool a0, .agg #[.int .u64 t305, .int .u64 t306]] rfl zm ?_; (with_reducible refine (corebankref01_Join.calls a0 t305 t306 t308 t309 true _ A7.out).mono ?_); rintro e w27 ⟨rfl, hb⟩; refine ⟨_, rfl, ?_⟩; replace BK301 := bb BK301 hb; replace BK302 := bb BK302 hb; replace BK303 := bb BK303 hb; replace BK304 := bpb BK304 hb #[.int .u64 t305, .int .u64 t306]; replace HB := bs HB hb; (try clear hb); (try clear hb2); (try clear hk); (try clear hi)) | ((with_reducible refine gate_dst (N := 13) rfl ?_); refine box_event ?hg (N := 13) ?hd (cs := #[.int .i64 0, .int .u64 0]) (t := 35) ?hr ?_; (case hd => rfl); (case hg => rfl); (case hr => first | (go_simp; done) | (go_simp; rfl)); intro gb311 hg w28 hbox hb; have BK311 := Aside0.mk (hbox); have GW311 := ge HB hg; have GE311 := ge HB hg; have NB301_311 := nl BK301 hg; have NB311_301 := ng NB301_311; have NB302_311 := nl BK302 hg; have NB311_302 := ng NB302_311; have NB303_311 := nl BK303 hg; have NB311_303 := ng NB303_311; have NB304_311 := nl BK304 hg; have NB311_304 := ng NB304_311; replace BK301 := bb BK301 hb; replace BK302 := bb BK302 hb; replace BK303 := bb BK303 hb; replace BK304 := bb BK304 hb; replace HB := bs HB hb; clear hb hbox hg; have hnb29 := NB311_301.out; have hnc29 := NB301_311.out; have hnb30 := NB311_302.out; have hnc30 := NB302_311.out; have hnb31 := NB311_303.out; have hnc31 := NB303_311.out; have hnb32 := NB311_304.out; have hnc32 := NB304_311.out; obtain ⟨hcz33_0, hcz33_1, hfz33_0, hfz33_1⟩ := cz2 BK311; obtain ⟨hcz34_0, hcz34_1, hfz34_0, hfz34_1⟩ := cz2 BK303))
        refine bodyPost_ret (results_ct rfl _ _ gb303 35 #[.int .i64 t308, .int .u64 t309] (0, 0) _ rfl (bp BK303) Try.underlying35 rfl (by kernel_rfl)) rfl ?_
        exact ⟨by first | rfl | (simp [errW_none, errW_some] <;> rfl) | (simp [*, errW_none, errW_some] <;> rfl), hq HB⟩
      · replace c9 := Bool.eq_false_iff.mpr c9
        subst c9
        have H1 : (some (0, 0, 6)) = some (r1, r2, r3) := by rw [if_neg (show ¬ (false = true) by decide)] at H; exact H
        clear H
        have H := H1
        clear H1
        simp only [Option.some.injEq, Prod.mk.injEq] at H
        obtain ⟨rfl, rfl, rfl⟩ := H
        go_enter Try.func49, Try.ntmps49
        try go_wp2_with (first | ((with_reducible refine gate_dst (N := 5) rfl ?_); refine box_event ?hg (N := 5) ?hd (cs := #[.int .u64 a1_0, .int .u64 a1_1]) (t := 89) ?hr ?_; (case hd => rfl); (case hg => rfl); (case hr => first | (go_simp; done) | (go_simp; rfl)); intro gb301 hg w35 hbox hb; have BK301 := Aside0.mk (hbox); have GW301 := ge HB hg; have GE301 := ge HB hg; replace HB := bs HB hb; clear hb hbox hg) | ((with_reducible refine gate_dst (N := 7) rfl ?_); refine box_event ?hg (N := 7) ?hd (cs := #[.int .u64 a3_0, .int .u64 a3_1]) (t := 89) ?hr ?_; (case hd => rfl); (case hg => rfl); (case hr => first | (go_simp; done) | (go_simp; rfl)); intro gb302 hg w36 hbox hb; have BK302 := Aside0.mk (hbox); have GW302 := ge HB hg; have GE302 := ge HB hg; have NB301_302 := nl BK301 hg; have NB302_301 := ng NB301_302; replace BK301 := bb BK301 hb; replace HB := bs HB hb; clear hb hbox hg) | ((with_reducible refine gate_dst (N := 8) rfl ?_); refine box_event ?hg (N := 8) ?hd (cs := #[.int .i64 0, .int .u64 0]) (t := 35) ?hr ?_; (case hd => rfl); (case hg => rfl); (case hr => first | (go_simp; done) | (go_simp; rfl)); intro gb303 hg w37 hbox hb; have BK303 := Aside0.mk (hbox); have GW303 := ge HB hg; have GE303 := ge HB hg; have NB301_303 := nl BK301 hg; have NB303_301 := ng NB301_303; have NB302_303 := nl BK302 hg; have NB303_302 := ng NB302_303; replace BK301 := bb BK301 hb; replace BK302 := bb BK302 hb; replace HB := bs HB hb; clear hb hbox hg))
        replace BK301 := bd1 BK301
        replace BK302 := bd1 BK302
        replace BK303 := bd1 BK303
        replace HB := hb1 HB
        refine start_ (n := 6) (S := fun w' => w'.cell? ⟨gb301, 0, none⟩ = some (.int .u64 a1_0) ∧ w'.cell? ⟨gb301, 1, none⟩ = some (.int .u64 a1_1)) (ds := []) #[false, false, false, false, false, false] (by kernel_rfl) rfl rfl ⟨(blk_cell BK301.out 0).trans rfl, (blk_cell BK301.out 1).trans rfl⟩ (fun hHeld => ?_)
        generalize w37.drew = w38 at BK301 BK302 BK303 HB hHeld ⊢
        refine pure_ (i := 0) (N := some 15) (v := ?_) (a' := ?_) #[true, false, false, false, false, false] rfl rfl (by kernel_rfl) (fun _ _ _ h => h) (Or.inl ⟨by rfl, ?_⟩) ?_ ?_
        rotate_left
        · intro w'
          go_simp
          with_reducible rfl
        rotate_left
        · simp only [Act.put, List.setIfInBounds_toArray, List.set_cons_zero, List.set_cons_succ, i64_w, i32_w]
          rfl
        refine take_ (i := 1) (N := some 16) (v := ?_) (a' := ?_) #[true, true, false, false, false, false] rfl rfl (by kernel_rfl) (fun _ _ _ h => h) (Or.inl ⟨by rfl, ?_⟩) hHeld ?_ ?_
        rotate_left
        · rintro w' ⟨s0, s1⟩
          go_simp
          with_reducible rfl
        rotate_left
        · simp only [Act.put, List.setIfInBounds_toArray, List.set_cons_zero, List.set_cons_succ, i64_w, i32_w]
          rfl
        refine one_ (i := 2) (N := some 11) #[true, true, true, false, false, false] rfl rfl (by kernel_rfl) (by decide) (fun K hK => ?_)
        refine box_step ?hg (N := 11) ?hd (cs := #[.int .u64 0, .int .u64 0]) (t := 89) ?hr ?_; (case hd => rfl); (case hg => rfl); (case hr => first | (go_simp; done) | (go_simp; rfl))
        intro gb304 hg w39 hbox hb
        have BK304 := Aside0.mk (hbox)
        have GW304 := ge HB hg
        have GE304 := ge HB hg
        have NB301_304 := nl BK301 hg
        have NB304_301 := ng NB301_304
        have NB302_304 := nl BK302 hg
        have NB304_302 := ng NB302_304
        have NB303_304 := nl BK303 hg
        have NB304_303 := ng NB303_304
        replace BK301 := bb BK301 hb
        replace BK302 := bb BK302 hb
        replace BK303 := bb BK303 hb
        replace HB := bs HB hb
        clear hb hbox hg
        refine hK.out _ _ ⟨(blk_cell BK301.out 0).trans rfl, (blk_cell BK301.out 1).trans rfl⟩ (fun hHeld => ?_)
        clear hK K
        refine norm_ (a' := ?_) ?_ ?_
        rotate_left
        · show Act.put _ (some 11) _ = _
          simp only [Act.put, List.setIfInBounds_toArray, List.set_cons_zero, List.set_cons_succ, i64_w, i32_w]
          rfl
        refine pure_ (i := 3) (N := some 10) (v := ?_) (a' := ?_) #[true, true, true, true, false, false] rfl rfl (by kernel_rfl) (fun _ _ _ h => h) (Or.inl ⟨by rfl, ?_⟩) ?_ ?_
        rotate_left
        · intro w'
          go_simp
          with_reducible rfl
        rotate_left
        · simp only [Act.put, List.setIfInBounds_toArray, List.set_cons_zero, List.set_cons_succ, i64_w, i32_w]
          rfl
        refine one_ (i := 4) (N := none) #[true, true, true, true, true, false] rfl rfl (by kernel_rfl) (by decide) (fun K hK => ?_)
        have hs40 : w39.cell? ⟨gb304, 0, none⟩ = some (.int .u64 0) := (blk_cell BK304.out 0).trans rfl
        have hfs40 := blk_frozen BK304.out 0
        have hns40_0 := NB301_304.out
        have hns40_1 := NB302_304.out
        have hns40_2 := NB303_304.out
        have hms40_0 := NB304_301.out
        have hms40_1 := NB304_302.out
        have hms40_2 := NB304_303.out
        have hs41 : w39.cell? ⟨gb304, 1, none⟩ = some (.int .u64 0) := (blk_cell BK304.out 1).trans rfl
        have hfs41 := blk_frozen BK304.out 1
        have hns41_0 := NB301_304.out
        have hns41_1 := NB302_304.out
        have hns41_2 := NB303_304.out
        have hms41_0 := NB304_301.out
        have hms41_1 := NB304_302.out
        have hms41_2 := NB304_303.out
        refine skip_ (w1 := ?_) (by rfl) rfl ?_ ?_
        rotate_left
        · go_simp
          rfl
        refine hK.out _ _ ⟨((cell_far (p := ⟨gb304, _, none⟩) NB301_304.out _).trans (((cell_far (p := ⟨gb304, _, none⟩) NB301_304.out _).trans (hHeld.1)))), ((cell_far (p := ⟨gb304, _, none⟩) NB301_304.out _).trans (((cell_far (p := ⟨gb304, _, none⟩) NB301_304.out _).trans (hHeld.2))))⟩ (fun hHeld => ?_)
        clear hK K
        refine pure_ (i := 5) (N := some 12) (v := ?_) (a' := ?_) #[true, true, true, true, true, true] rfl rfl (by kernel_rfl) (fun _ _ _ h => h) (Or.inl ⟨by rfl, ?_⟩) ?_ ?_
        rotate_left
        · intro w'
          go_simp
          with_reducible rfl
        rotate_left
        · simp only [Act.put, List.setIfInBounds_toArray, List.set_cons_zero, List.set_cons_succ, i64_w, i32_w]
          rfl
        refine done_ (by kernel_rfl) ?_
        have hnb42 := NB301_302.out
        have hnc42 := NB302_301.out
        have hnb43 := NB301_303.out
        have hnc43 := NB303_301.out
        have hnb44 := NB301_304.out
        have hnc44 := NB304_301.out
        obtain ⟨hcz45_0, hcz45_1, hfz45_0, hfz45_1⟩ := cz2 BK301
        have hnb46 := NB302_303.out
        have hnc46 := NB303_302.out
        have hnb47 := NB302_304.out
        have hnc47 := NB304_302.out
        obtain ⟨hcz48_0, hcz48_1, hfz48_0, hfz48_1⟩ := cz2 BK302
        try go_wp2_with (first | ((with_reducible refine gate_callee (f := 70) rfl ?_); refine goesL_ (some 27) rfl rfl Try.func70 (by kernel_rfl) rfl #[.agg #[.int .u64 a1_0, .int .u64 a1_1], .agg #[.int .u64 a3_0, .int .u64 a3_1]] rfl zm ?_; (with_reducible refine (corebankref01_plus.calls a1_0 a1_1 a3_0 a3_1 t305 t306 true _ A6.out).mono ?_); rintro e w49 ⟨rfl, hb⟩; refine ⟨_, rfl, ?_⟩; replace BK301 := bb BK301 hb; replace BK302 := bb BK302 hb; replace BK303 := bb BK303 hb; replace BK304 := bpb BK304 hb #[.int .u64 a1_0, .int .u64 a1_1]; replace HB := bs HB hb; (try clear hb); (try clear hb2); (try clear hk); (try clear hi); have hnb50 := NB304_303.out; have hnc50 := NB303_304.out; obtain ⟨hcz51_0, hcz51_1, hfz51_0, hfz51_1⟩ := cz2 BK304) | ((with_reducible refine gate_callee (f := 69) rfl ?_); refine goesL_ (some 41) rfl rfl Try.func69 (by kernel_rfl) rfl #[.bool a0, .agg #[.int .u64 t305, .int .u64 t306]] rfl zm ?_; (with_reducible refine (corebankref01_Join.calls a0 t305 t306 t308 t309 false _ A7.out).mono ?_); rintro e w52 ⟨rfl, hb⟩; refine ⟨_, rfl, ?_⟩; replace BK301 := bb BK301 hb; replace BK302 := bb BK302 hb; replace BK303 := bb BK303 hb; replace BK304 := bpb BK304 hb #[.int .u64 t305, .int .u64 t306]; replace HB := bs HB hb; (try clear hb); (try clear hb2); (try clear hk); (try clear hi)) | ((with_reducible refine gate_dst (N := 13) rfl ?_); refine box_event ?hg (N := 13) ?hd (cs := #[.int .i64 0, .int .u64 0]) (t := 35) ?hr ?_; (case hd => rfl); (case hg => rfl); (case hr => first | (go_simp; done) | (go_simp; rfl)); intro gb311 hg w53 hbox hb; have BK311 := Aside0.mk (hbox); have GW311 := ge HB hg; have GE311 := ge HB hg; have NB301_311 := nl BK301 hg; have NB311_301 := ng NB301_311; have NB302_311 := nl BK302 hg; have NB311_302 := ng NB302_311; have NB303_311 := nl BK303 hg; have NB311_303 := ng NB303_311; have NB304_311 := nl BK304 hg; have NB311_304 := ng NB304_311; replace BK301 := bb BK301 hb; replace BK302 := bb BK302 hb; replace BK303 := bb BK303 hb; replace BK304 := bb BK304 hb; replace HB := bs HB hb; clear hb hbox hg; have hnb54 := NB311_301.out; have hnc54 := NB301_311.out; have hnb55 := NB311_302.out; have hnc55 := NB302_311.out; have hnb56 := NB311_303.out; have hnc56 := NB303_311.out; have hnb57 := NB311_304.out; have hnc57 := NB304_311.out; obtain ⟨hcz58_0, hcz58_1, hfz58_0, hfz58_1⟩ := cz2 BK311; obtain ⟨hcz59_0, hcz59_1, hfz59_0, hfz59_1⟩ := cz2 BK303))
        refine bodyPost_ret (results_ct rfl _ _ gb303 35 #[.int .i64 0, .int .u64 0] (0, 0) _ rfl (bp BK303) Try.underlying35 rfl (by kernel_rfl)) rfl ?_
        exact ⟨by first | rfl | (simp [errW_none, errW_some] <;> rfl) | (simp [*, errW_none, errW_some] <;> rfl), hq HB⟩
    · replace c8 := Bool.eq_false_iff.mpr c8
      subst c8
      have H1 : (some (0, 0, 6)) = some (r1, r2, r3) := by rw [if_neg (show ¬ (false = true) by decide)] at H; exact H
      clear H
      have H := H1
      clear H1
      simp only [Option.some.injEq, Prod.mk.injEq] at H
      obtain ⟨rfl, rfl, rfl⟩ := H
      go_enter Try.func49, Try.ntmps49
      try go_wp2_with (first | ((with_reducible refine gate_dst (N := 5) rfl ?_); refine box_event ?hg (N := 5) ?hd (cs := #[.int .u64 a1_0, .int .u64 a1_1]) (t := 89) ?hr ?_; (case hd => rfl); (case hg => rfl); (case hr => first | (go_simp; done) | (go_simp; rfl)); intro gb301 hg w60 hbox hb; have BK301 := Aside0.mk (hbox); have GW301 := ge HB hg; have GE301 := ge HB hg; replace HB := bs HB hb; clear hb hbox hg) | ((with_reducible refine gate_dst (N := 7) rfl ?_); refine box_event ?hg (N := 7) ?hd (cs := #[.int .u64 a3_0, .int .u64 a3_1]) (t := 89) ?hr ?_; (case hd => rfl); (case hg => rfl); (case hr => first | (go_simp; done) | (go_simp; rfl)); intro gb302 hg w61 hbox hb; have BK302 := Aside0.mk (hbox); have GW302 := ge HB hg; have GE302 := ge HB hg; have NB301_302 := nl BK301 hg; have NB302_301 := ng NB301_302; replace BK301 := bb BK301 hb; replace HB := bs HB hb; clear hb hbox hg) | ((with_reducible refine gate_dst (N := 8) rfl ?_); refine box_event ?hg (N := 8) ?hd (cs := #[.int .i64 0, .int .u64 0]) (t := 35) ?hr ?_; (case hd => rfl); (case hg => rfl); (case hr => first | (go_simp; done) | (go_simp; rfl)); intro gb303 hg w62 hbox hb; have BK303 := Aside0.mk (hbox); have GW303 := ge HB hg; have GE303 := ge HB hg; have NB301_303 := nl BK301 hg; have NB303_301 := ng NB301_303; have NB302_303 := nl BK302 hg; have NB303_302 := ng NB302_303; replace BK301 := bb BK301 hb; replace BK302 := bb BK302 hb; replace HB := bs HB hb; clear hb hbox hg))
      replace BK301 := bd1 BK301
      replace BK302 := bd1 BK302
      replace BK303 := bd1 BK303
      replace HB := hb1 HB
      refine start_ (n := 6) (S := fun w' => w'.cell? ⟨gb301, 0, none⟩ = some (.int .u64 a1_0) ∧ w'.cell? ⟨gb301, 1, none⟩ = some (.int .u64 a1_1)) (ds := []) #[false, false, false, false, false, false] (by kernel_rfl) rfl rfl ⟨(blk_cell BK301.out 0).trans rfl, (blk_cell BK301.out 1).trans rfl⟩ (fun hHeld => ?_)
      generalize w62.drew = w63 at BK301 BK302 BK303 HB hHeld ⊢
      refine pure_ (i := 0) (N := some 15) (v := ?_) (a' := ?_) #[true, false, false, false, false, false] rfl rfl (by kernel_rfl) (fun _ _ _ h => h) (Or.inl ⟨by rfl, ?_⟩) ?_ ?_
      rotate_left
      · intro w'
        go_simp
        with_reducible rfl
      rotate_left
      · simp only [Act.put, List.setIfInBounds_toArray, List.set_cons_zero, List.set_cons_succ, i64_w, i32_w]
        rfl
      refine take_ (i := 1) (N := some 16) (v := ?_) (a' := ?_) #[true, true, false, false, false, false] rfl rfl (by kernel_rfl) (fun _ _ _ h => h) (Or.inl ⟨by rfl, ?_⟩) hHeld ?_ ?_
      rotate_left
      · rintro w' ⟨s0, s1⟩
        go_simp
        with_reducible rfl
      rotate_left
      · simp only [Act.put, List.setIfInBounds_toArray, List.set_cons_zero, List.set_cons_succ, i64_w, i32_w]
        rfl
      refine one_ (i := 2) (N := some 11) #[true, true, true, false, false, false] rfl rfl (by kernel_rfl) (by decide) (fun K hK => ?_)
      refine box_step ?hg (N := 11) ?hd (cs := #[.int .u64 0, .int .u64 0]) (t := 89) ?hr ?_; (case hd => rfl); (case hg => rfl); (case hr => first | (go_simp; done) | (go_simp; rfl))
      intro gb304 hg w64 hbox hb
      have BK304 := Aside0.mk (hbox)
      have GW304 := ge HB hg
      have GE304 := ge HB hg
      have NB301_304 := nl BK301 hg
      have NB304_301 := ng NB301_304
      have NB302_304 := nl BK302 hg
      have NB304_302 := ng NB302_304
      have NB303_304 := nl BK303 hg
      have NB304_303 := ng NB303_304
      replace BK301 := bb BK301 hb
      replace BK302 := bb BK302 hb
      replace BK303 := bb BK303 hb
      replace HB := bs HB hb
      clear hb hbox hg
      refine hK.out _ _ ⟨(blk_cell BK301.out 0).trans rfl, (blk_cell BK301.out 1).trans rfl⟩ (fun hHeld => ?_)
      clear hK K
      refine norm_ (a' := ?_) ?_ ?_
      rotate_left
      · show Act.put _ (some 11) _ = _
        simp only [Act.put, List.setIfInBounds_toArray, List.set_cons_zero, List.set_cons_succ, i64_w, i32_w]
        rfl
      refine pure_ (i := 3) (N := some 10) (v := ?_) (a' := ?_) #[true, true, true, true, false, false] rfl rfl (by kernel_rfl) (fun _ _ _ h => h) (Or.inl ⟨by rfl, ?_⟩) ?_ ?_
      rotate_left
      · intro w'
        go_simp
        with_reducible rfl
      rotate_left
      · simp only [Act.put, List.setIfInBounds_toArray, List.set_cons_zero, List.set_cons_succ, i64_w, i32_w]
        rfl
      refine one_ (i := 4) (N := none) #[true, true, true, true, true, false] rfl rfl (by kernel_rfl) (by decide) (fun K hK => ?_)
      have hs65 : w64.cell? ⟨gb304, 0, none⟩ = some (.int .u64 0) := (blk_cell BK304.out 0).trans rfl
      have hfs65 := blk_frozen BK304.out 0
      have hns65_0 := NB301_304.out
      have hns65_1 := NB302_304.out
      have hns65_2 := NB303_304.out
      have hms65_0 := NB304_301.out
      have hms65_1 := NB304_302.out
      have hms65_2 := NB304_303.out
      have hs66 : w64.cell? ⟨gb304, 1, none⟩ = some (.int .u64 0) := (blk_cell BK304.out 1).trans rfl
      have hfs66 := blk_frozen BK304.out 1
      have hns66_0 := NB301_304.out
      have hns66_1 := NB302_304.out
      have hns66_2 := NB303_304.out
      have hms66_0 := NB304_301.out
      have hms66_1 := NB304_302.out
      have hms66_2 := NB304_303.out
      refine skip_ (w1 := ?_) (by rfl) rfl ?_ ?_
      rotate_left
      · go_simp
        rfl
      refine hK.out _ _ ⟨((cell_far (p := ⟨gb304, _, none⟩) NB301_304.out _).trans (((cell_far (p := ⟨gb304, _, none⟩) NB301_304.out _).trans (hHeld.1)))), ((cell_far (p := ⟨gb304, _, none⟩) NB301_304.out _).trans (((cell_far (p := ⟨gb304, _, none⟩) NB301_304.out _).trans (hHeld.2))))⟩ (fun hHeld => ?_)
      clear hK K
      refine pure_ (i := 5) (N := some 12) (v := ?_) (a' := ?_) #[true, true, true, true, true, true] rfl rfl (by kernel_rfl) (fun _ _ _ h => h) (Or.inl ⟨by rfl, ?_⟩) ?_ ?_
      rotate_left
      · intro w'
        go_simp
        with_reducible rfl
      rotate_left
      · simp only [Act.put, List.setIfInBounds_toArray, List.set_cons_zero, List.set_cons_succ, i64_w, i32_w]
        rfl
      refine done_ (by kernel_rfl) ?_
      have hnb67 := NB301_302.out
      have hnc67 := NB302_301.out
      have hnb68 := NB301_303.out
      have hnc68 := NB303_301.out
      have hnb69 := NB301_304.out
      have hnc69 := NB304_301.out
      obtain ⟨hcz70_0, hcz70_1, hfz70_0, hfz70_1⟩ := cz2 BK301
      have hnb71 := NB302_303.out
      have hnc71 := NB303_302.out
      have hnb72 := NB302_304.out
      have hnc72 := NB304_302.out
      obtain ⟨hcz73_0, hcz73_1, hfz73_0, hfz73_1⟩ := cz2 BK302
      try go_wp2_with (first | ((with_reducible refine gate_callee (f := 70) rfl ?_); refine goesL_ (some 27) rfl rfl Try.func70 (by kernel_rfl) rfl #[.agg #[.int .u64 a1_0, .int .u64 a1_1], .agg #[.int .u64 a3_0, .int .u64 a3_1]] rfl zm ?_; (with_reducible refine (corebankref01_plus.calls a1_0 a1_1 a3_0 a3_1 t305 t306 false _ A6.out).mono ?_); rintro e w74 ⟨rfl, hb⟩; refine ⟨_, rfl, ?_⟩; replace BK301 := bb BK301 hb; replace BK302 := bb BK302 hb; replace BK303 := bb BK303 hb; replace BK304 := bpb BK304 hb #[.int .u64 a1_0, .int .u64 a1_1]; replace HB := bs HB hb; (try clear hb); (try clear hb2); (try clear hk); (try clear hi); have hnb75 := NB304_303.out; have hnc75 := NB303_304.out; obtain ⟨hcz76_0, hcz76_1, hfz76_0, hfz76_1⟩ := cz2 BK304) | ((with_reducible refine gate_callee (f := 69) rfl ?_); refine goesL_ (some 41) rfl rfl Try.func69 (by kernel_rfl) rfl #[.bool a0, .agg #[.int .u64 t305, .int .u64 t306]] rfl zm ?_; (with_reducible refine (corebankref01_Join.calls a0 t305 t306 t308 t309 t310 _ A7.out).mono ?_); rintro e w77 ⟨rfl, hb⟩; refine ⟨_, rfl, ?_⟩; replace BK301 := bb BK301 hb; replace BK302 := bb BK302 hb; replace BK303 := bb BK303 hb; replace BK304 := bpb BK304 hb #[.int .u64 t305, .int .u64 t306]; replace HB := bs HB hb; (try clear hb); (try clear hb2); (try clear hk); (try clear hi)) | ((with_reducible refine gate_dst (N := 13) rfl ?_); refine box_event ?hg (N := 13) ?hd (cs := #[.int .i64 0, .int .u64 0]) (t := 35) ?hr ?_; (case hd => rfl); (case hg => rfl); (case hr => first | (go_simp; done) | (go_simp; rfl)); intro gb311 hg w78 hbox hb; have BK311 := Aside0.mk (hbox); have GW311 := ge HB hg; have GE311 := ge HB hg; have NB301_311 := nl BK301 hg; have NB311_301 := ng NB301_311; have NB302_311 := nl BK302 hg; have NB311_302 := ng NB302_311; have NB303_311 := nl BK303 hg; have NB311_303 := ng NB303_311; have NB304_311 := nl BK304 hg; have NB311_304 := ng NB304_311; replace BK301 := bb BK301 hb; replace BK302 := bb BK302 hb; replace BK303 := bb BK303 hb; replace BK304 := bb BK304 hb; replace HB := bs HB hb; clear hb hbox hg; have hnb79 := NB311_301.out; have hnc79 := NB301_311.out; have hnb80 := NB311_302.out; have hnc80 := NB302_311.out; have hnb81 := NB311_303.out; have hnc81 := NB303_311.out; have hnb82 := NB311_304.out; have hnc82 := NB304_311.out; obtain ⟨hcz83_0, hcz83_1, hfz83_0, hfz83_1⟩ := cz2 BK311; obtain ⟨hcz84_0, hcz84_1, hfz84_0, hfz84_1⟩ := cz2 BK303))
      refine bodyPost_ret (results_ct rfl _ _ gb303 35 #[.int .i64 0, .int .u64 0] (0, 0) _ rfl (bp BK303) Try.underlying35 rfl (by kernel_rfl)) rfl ?_
      exact ⟨by first | rfl | (simp [errW_none, errW_some] <;> rfl) | (simp [*, errW_none, errW_some] <;> rfl), hq HB⟩
  · rw [if_neg c5] at H
    have c5b0 : (a0 == a2) = false := by simpa using c5
    (try (have c5b1 : decide (a0 = a2) = false := by simpa using c5))
    (try (have c5b2 : (a0 == a2) = false := by simpa using c5))
    (try (have c5b3 : ¬ (a0 = a2) := by simpa using c5))
    clear c5
    replace H := Option.bind_eq_some_iff.mp H
    obtain ⟨t312, A850, H⟩ := H
    replace H : (if t312 = true then ((corebankref01_minus.f a3_0 a3_1 a1_0 a1_1).bind fun bt313 => ((corebankref01_Join.f a2 bt313.1 bt313.2).bind fun bt315 => (if bt315.2.2 = true then (some (bt315.1, bt315.2.1, 0)) else (some (0, 0, 6))))) else ((corebankref01_minus.f a1_0 a1_1 a3_0 a3_1).bind fun bt319 => ((corebankref01_Join.f a0 bt319.1 bt319.2).bind fun bt321 => (if bt321.2.2 = true then (some (bt321.1, bt321.2.1, 0)) else (some (0, 0, 6)))))) = some (r1, r2, r3) := H
    have A85 := Aside0.mk A850
    clear A850
    by_cases c86 : t312 = true
    · subst c86
      have H1 : ((corebankref01_minus.f a3_0 a3_1 a1_0 a1_1).bind fun bt313 => ((corebankref01_Join.f a2 bt313.1 bt313.2).bind fun bt315 => (if bt315.2.2 = true then (some (bt315.1, bt315.2.1, 0)) else (some (0, 0, 6))))) = some (r1, r2, r3) := by rw [if_pos rfl] at H; exact H
      clear H
      have H := H1
      clear H1
      replace H := Option.bind_eq_some_iff.mp H
      obtain ⟨⟨t313, t314⟩, A870, H⟩ := H
      replace H : ((corebankref01_Join.f a2 t313 t314).bind fun bt315 => (if bt315.2.2 = true then (some (bt315.1, bt315.2.1, 0)) else (some (0, 0, 6)))) = some (r1, r2, r3) := H
      have A87 := Aside0.mk A870
      clear A870
      replace H := Option.bind_eq_some_iff.mp H
      obtain ⟨⟨t315, t316, t317⟩, A880, H⟩ := H
      replace H : (if t317 = true then (some (t315, t316, 0)) else (some (0, 0, 6))) = some (r1, r2, r3) := H
      have A88 := Aside0.mk A880
      clear A880
      by_cases c89 : t317 = true
      · subst c89
        have H1 : (some (t315, t316, 0)) = some (r1, r2, r3) := by rw [if_pos rfl] at H; exact H
        clear H
        have H := H1
        clear H1
        simp only [Option.some.injEq, Prod.mk.injEq] at H
        obtain ⟨rfl, rfl, rfl⟩ := H
        go_enter Try.func49, Try.ntmps49
        try go_wp2_with (first | ((with_reducible refine gate_dst (N := 5) rfl ?_); refine box_event ?hg (N := 5) ?hd (cs := #[.int .u64 a1_0, .int .u64 a1_1]) (t := 89) ?hr ?_; (case hd => rfl); (case hg => rfl); (case hr => first | (go_simp; done) | (go_simp; rfl)); intro gb301 hg w90 hbox hb; have BK301 := Aside0.mk (hbox); have GW301 := ge HB hg; have GE301 := ge HB hg; replace HB := bs HB hb; clear hb hbox hg) | ((with_reducible refine gate_dst (N := 7) rfl ?_); refine box_event ?hg (N := 7) ?hd (cs := #[.int .u64 a3_0, .int .u64 a3_1]) (t := 89) ?hr ?_; (case hd => rfl); (case hg => rfl); (case hr => first | (go_simp; done) | (go_simp; rfl)); intro gb302 hg w91 hbox hb; have BK302 := Aside0.mk (hbox); have GW302 := ge HB hg; have GE302 := ge HB hg; have NB301_302 := nl BK301 hg; have NB302_301 := ng NB301_302; replace BK301 := bb BK301 hb; replace HB := bs HB hb; clear hb hbox hg) | ((with_reducible refine gate_dst (N := 8) rfl ?_); refine box_event ?hg (N := 8) ?hd (cs := #[.int .i64 0, .int .u64 0]) (t := 35) ?hr ?_; (case hd => rfl); (case hg => rfl); (case hr => first | (go_simp; done) | (go_simp; rfl)); intro gb303 hg w92 hbox hb; have BK303 := Aside0.mk (hbox); have GW303 := ge HB hg; have GE303 := ge HB hg; have NB301_303 := nl BK301 hg; have NB303_301 := ng NB301_303; have NB302_303 := nl BK302 hg; have NB303_302 := ng NB302_303; replace BK301 := bb BK301 hb; replace BK302 := bb BK302 hb; replace HB := bs HB hb; clear hb hbox hg))
        replace BK301 := bd1 BK301
        replace BK302 := bd1 BK302
        replace BK303 := bd1 BK303
        replace HB := hb1 HB
        refine start_ (n := 6) (S := fun w' => w'.cell? ⟨gb301, 0, none⟩ = some (.int .u64 a1_0) ∧ w'.cell? ⟨gb301, 1, none⟩ = some (.int .u64 a1_1)) (ds := []) #[false, false, false, false, false, false] (by kernel_rfl) rfl rfl ⟨(blk_cell BK301.out 0).trans rfl, (blk_cell BK301.out 1).trans rfl⟩ (fun hHeld => ?_)
        generalize w92.drew = w93 at BK301 BK302 BK303 HB hHeld ⊢
        refine pure_ (i := 0) (N := some 15) (v := ?_) (a' := ?_) #[true, false, false, false, false, false] rfl rfl (by kernel_rfl) (fun _ _ _ h => h) (Or.inl ⟨by rfl, ?_⟩) ?_ ?_
        rotate_left
        · intro w'
          go_simp
          with_reducible rfl
        rotate_left
        · simp only [Act.put, List.setIfInBounds_toArray, List.set_cons_zero, List.set_cons_succ, i64_w, i32_w]
          rfl
        refine take_ (i := 1) (N := some 16) (v := ?_) (a' := ?_) #[true, true, false, false, false, false] rfl rfl (by kernel_rfl) (fun _ _ _ h => h) (Or.inl ⟨by rfl, ?_⟩) hHeld ?_ ?_
        rotate_left
        · rintro w' ⟨s0, s1⟩
          go_simp
          with_reducible rfl
        rotate_left
        · simp only [Act.put, List.setIfInBounds_toArray, List.set_cons_zero, List.set_cons_succ, i64_w, i32_w]
          rfl
        refine one_ (i := 2) (N := some 11) #[true, true, true, false, false, false] rfl rfl (by kernel_rfl) (by decide) (fun K hK => ?_)
        refine box_step ?hg (N := 11) ?hd (cs := #[.int .u64 0, .int .u64 0]) (t := 89) ?hr ?_; (case hd => rfl); (case hg => rfl); (case hr => first | (go_simp; done) | (go_simp; rfl))
        intro gb304 hg w94 hbox hb
        have BK304 := Aside0.mk (hbox)
        have GW304 := ge HB hg
        have GE304 := ge HB hg
        have NB301_304 := nl BK301 hg
        have NB304_301 := ng NB301_304
        have NB302_304 := nl BK302 hg
        have NB304_302 := ng NB302_304
        have NB303_304 := nl BK303 hg
        have NB304_303 := ng NB303_304
        replace BK301 := bb BK301 hb
        replace BK302 := bb BK302 hb
        replace BK303 := bb BK303 hb
        replace HB := bs HB hb
        clear hb hbox hg
        refine hK.out _ _ ⟨(blk_cell BK301.out 0).trans rfl, (blk_cell BK301.out 1).trans rfl⟩ (fun hHeld => ?_)
        clear hK K
        refine norm_ (a' := ?_) ?_ ?_
        rotate_left
        · show Act.put _ (some 11) _ = _
          simp only [Act.put, List.setIfInBounds_toArray, List.set_cons_zero, List.set_cons_succ, i64_w, i32_w]
          rfl
        refine pure_ (i := 3) (N := some 10) (v := ?_) (a' := ?_) #[true, true, true, true, false, false] rfl rfl (by kernel_rfl) (fun _ _ _ h => h) (Or.inl ⟨by rfl, ?_⟩) ?_ ?_
        rotate_left
        · intro w'
          go_simp
          with_reducible rfl
        rotate_left
        · simp only [Act.put, List.setIfInBounds_toArray, List.set_cons_zero, List.set_cons_succ, i64_w, i32_w]
          rfl
        refine one_ (i := 4) (N := none) #[true, true, true, true, true, false] rfl rfl (by kernel_rfl) (by decide) (fun K hK => ?_)
        have hs95 : w94.cell? ⟨gb304, 0, none⟩ = some (.int .u64 0) := (blk_cell BK304.out 0).trans rfl
        have hfs95 := blk_frozen BK304.out 0
        have hns95_0 := NB301_304.out
        have hns95_1 := NB302_304.out
        have hns95_2 := NB303_304.out
        have hms95_0 := NB304_301.out
        have hms95_1 := NB304_302.out
        have hms95_2 := NB304_303.out
        have hs96 : w94.cell? ⟨gb304, 1, none⟩ = some (.int .u64 0) := (blk_cell BK304.out 1).trans rfl
        have hfs96 := blk_frozen BK304.out 1
        have hns96_0 := NB301_304.out
        have hns96_1 := NB302_304.out
        have hns96_2 := NB303_304.out
        have hms96_0 := NB304_301.out
        have hms96_1 := NB304_302.out
        have hms96_2 := NB304_303.out
        refine skip_ (w1 := ?_) (by rfl) rfl ?_ ?_
        rotate_left
        · go_simp
          rfl
        refine hK.out _ _ ⟨((cell_far (p := ⟨gb304, _, none⟩) NB301_304.out _).trans (((cell_far (p := ⟨gb304, _, none⟩) NB301_304.out _).trans (hHeld.1)))), ((cell_far (p := ⟨gb304, _, none⟩) NB301_304.out _).trans (((cell_far (p := ⟨gb304, _, none⟩) NB301_304.out _).trans (hHeld.2))))⟩ (fun hHeld => ?_)
        clear hK K
        refine pure_ (i := 5) (N := some 12) (v := ?_) (a' := ?_) #[true, true, true, true, true, true] rfl rfl (by kernel_rfl) (fun _ _ _ h => h) (Or.inl ⟨by rfl, ?_⟩) ?_ ?_
        rotate_left
        · intro w'
          go_simp
          with_reducible rfl
        rotate_left
        · simp only [Act.put, List.setIfInBounds_toArray, List.set_cons_zero, List.set_cons_succ, i64_w, i32_w]
          rfl
        refine done_ (by kernel_rfl) ?_
        have hnb97 := NB301_302.out
        have hnc97 := NB302_301.out
        have hnb98 := NB301_303.out
        have hnc98 := NB303_301.out
        have hnb99 := NB301_304.out
        have hnc99 := NB304_301.out
        obtain ⟨hcz100_0, hcz100_1, hfz100_0, hfz100_1⟩ := cz2 BK301
        have hnb101 := NB302_303.out
        have hnc101 := NB303_302.out
        have hnb102 := NB302_304.out
        have hnc102 := NB304_302.out
        obtain ⟨hcz103_0, hcz103_1, hfz103_0, hfz103_1⟩ := cz2 BK302
        try go_wp2_with (first | ((with_reducible refine gate_callee (f := 71) rfl ?_); refine goesL_ (some 33) rfl rfl Try.func71 (by kernel_rfl) rfl #[.agg #[.int .u64 a1_0, .int .u64 a1_1], .agg #[.int .u64 a3_0, .int .u64 a3_1]] rfl zm ?_; (with_reducible refine (corebankref01_Less.calls a1_0 a1_1 a3_0 a3_1 true _ A85.out).mono ?_); rintro e w104 ⟨rfl, hb⟩; refine ⟨_, rfl, ?_⟩; replace BK301 := bb BK301 hb; replace BK302 := bb BK302 hb; replace BK303 := bb BK303 hb; replace BK304 := bpb BK304 hb #[.int .u64 a1_0, .int .u64 a1_1]; replace HB := bs HB hb; (try clear hb); (try clear hb2); (try clear hk); (try clear hi); obtain ⟨hcz105_0, hcz105_1, hfz105_0, hfz105_1⟩ := cz2 BK302; obtain ⟨hcz106_0, hcz106_1, hfz106_0, hfz106_1⟩ := cz2 BK301) | ((with_reducible refine gate_callee (f := 72) rfl ?_); refine goesL_ (some 37) rfl rfl Try.func72 (by kernel_rfl) rfl #[.agg #[.int .u64 a3_0, .int .u64 a3_1], .agg #[.int .u64 a1_0, .int .u64 a1_1]] rfl zm ?_; (with_reducible refine (corebankref01_minus.calls a3_0 a3_1 a1_0 a1_1 t313 t314 _ A87.out).mono ?_); rintro e w107 ⟨rfl, hb⟩; refine ⟨_, rfl, ?_⟩; replace BK301 := bb BK301 hb; replace BK302 := bb BK302 hb; replace BK303 := bb BK303 hb; replace BK304 := bb BK304 hb; replace HB := bs HB hb; (try clear hb); (try clear hb2); (try clear hk); (try clear hi); have hnb108 := NB304_303.out; have hnc108 := NB303_304.out; obtain ⟨hcz109_0, hcz109_1, hfz109_0, hfz109_1⟩ := cz2 BK304) | ((with_reducible refine gate_callee (f := 69) rfl ?_); refine goesL_ (some 41) rfl rfl Try.func69 (by kernel_rfl) rfl #[.bool a2, .agg #[.int .u64 t313, .int .u64 t314]] rfl zm ?_; (with_reducible refine (corebankref01_Join.calls a2 t313 t314 t315 t316 true _ A88.out).mono ?_); rintro e w110 ⟨rfl, hb⟩; refine ⟨_, rfl, ?_⟩; replace BK301 := bb BK301 hb; replace BK302 := bb BK302 hb; replace BK303 := bb BK303 hb; replace BK304 := bpb BK304 hb #[.int .u64 t313, .int .u64 t314]; replace HB := bs HB hb; (try clear hb); (try clear hb2); (try clear hk); (try clear hi)) | ((with_reducible refine gate_dst (N := 13) rfl ?_); refine box_event ?hg (N := 13) ?hd (cs := #[.int .i64 0, .int .u64 0]) (t := 35) ?hr ?_; (case hd => rfl); (case hg => rfl); (case hr => first | (go_simp; done) | (go_simp; rfl)); intro gb318 hg w111 hbox hb; have BK318 := Aside0.mk (hbox); have GW318 := ge HB hg; have GE318 := ge HB hg; have NB301_318 := nl BK301 hg; have NB318_301 := ng NB301_318; have NB302_318 := nl BK302 hg; have NB318_302 := ng NB302_318; have NB303_318 := nl BK303 hg; have NB318_303 := ng NB303_318; have NB304_318 := nl BK304 hg; have NB318_304 := ng NB304_318; replace BK301 := bb BK301 hb; replace BK302 := bb BK302 hb; replace BK303 := bb BK303 hb; replace BK304 := bb BK304 hb; replace HB := bs HB hb; clear hb hbox hg; have hnb112 := NB318_301.out; have hnc112 := NB301_318.out; have hnb113 := NB318_302.out; have hnc113 := NB302_318.out; have hnb114 := NB318_303.out; have hnc114 := NB303_318.out; have hnb115 := NB318_304.out; have hnc115 := NB304_318.out; obtain ⟨hcz116_0, hcz116_1, hfz116_0, hfz116_1⟩ := cz2 BK318; obtain ⟨hcz117_0, hcz117_1, hfz117_0, hfz117_1⟩ := cz2 BK303))
        refine bodyPost_ret (results_ct rfl _ _ gb303 35 #[.int .i64 t315, .int .u64 t316] (0, 0) _ rfl (bp BK303) Try.underlying35 rfl (by kernel_rfl)) rfl ?_
        exact ⟨by first | rfl | (simp [errW_none, errW_some] <;> rfl) | (simp [*, errW_none, errW_some] <;> rfl), hq HB⟩
      · replace c89 := Bool.eq_false_iff.mpr c89
        subst c89
        have H1 : (some (0, 0, 6)) = some (r1, r2, r3) := by rw [if_neg (show ¬ (false = true) by decide)] at H; exact H
        clear H
        have H := H1
        clear H1
        simp only [Option.some.injEq, Prod.mk.injEq] at H
        obtain ⟨rfl, rfl, rfl⟩ := H
        go_enter Try.func49, Try.ntmps49
        try go_wp2_with (first | ((with_reducible refine gate_dst (N := 5) rfl ?_); refine box_event ?hg (N := 5) ?hd (cs := #[.int .u64 a1_0, .int .u64 a1_1]) (t := 89) ?hr ?_; (case hd => rfl); (case hg => rfl); (case hr => first | (go_simp; done) | (go_simp; rfl)); intro gb301 hg w118 hbox hb; have BK301 := Aside0.mk (hbox); have GW301 := ge HB hg; have GE301 := ge HB hg; replace HB := bs HB hb; clear hb hbox hg) | ((with_reducible refine gate_dst (N := 7) rfl ?_); refine box_event ?hg (N := 7) ?hd (cs := #[.int .u64 a3_0, .int .u64 a3_1]) (t := 89) ?hr ?_; (case hd => rfl); (case hg => rfl); (case hr => first | (go_simp; done) | (go_simp; rfl)); intro gb302 hg w119 hbox hb; have BK302 := Aside0.mk (hbox); have GW302 := ge HB hg; have GE302 := ge HB hg; have NB301_302 := nl BK301 hg; have NB302_301 := ng NB301_302; replace BK301 := bb BK301 hb; replace HB := bs HB hb; clear hb hbox hg) | ((with_reducible refine gate_dst (N := 8) rfl ?_); refine box_event ?hg (N := 8) ?hd (cs := #[.int .i64 0, .int .u64 0]) (t := 35) ?hr ?_; (case hd => rfl); (case hg => rfl); (case hr => first | (go_simp; done) | (go_simp; rfl)); intro gb303 hg w120 hbox hb; have BK303 := Aside0.mk (hbox); have GW303 := ge HB hg; have GE303 := ge HB hg; have NB301_303 := nl BK301 hg; have NB303_301 := ng NB301_303; have NB302_303 := nl BK302 hg; have NB303_302 := ng NB302_303; replace BK301 := bb BK301 hb; replace BK302 := bb BK302 hb; replace HB := bs HB hb; clear hb hbox hg))
        replace BK301 := bd1 BK301
        replace BK302 := bd1 BK302
        replace BK303 := bd1 BK303
        replace HB := hb1 HB
        refine start_ (n := 6) (S := fun w' => w'.cell? ⟨gb301, 0, none⟩ = some (.int .u64 a1_0) ∧ w'.cell? ⟨gb301, 1, none⟩ = some (.int .u64 a1_1)) (ds := []) #[false, false, false, false, false, false] (by kernel_rfl) rfl rfl ⟨(blk_cell BK301.out 0).trans rfl, (blk_cell BK301.out 1).trans rfl⟩ (fun hHeld => ?_)
        generalize w120.drew = w121 at BK301 BK302 BK303 HB hHeld ⊢
        refine pure_ (i := 0) (N := some 15) (v := ?_) (a' := ?_) #[true, false, false, false, false, false] rfl rfl (by kernel_rfl) (fun _ _ _ h => h) (Or.inl ⟨by rfl, ?_⟩) ?_ ?_
        rotate_left
        · intro w'
          go_simp
          with_reducible rfl
        rotate_left
        · simp only [Act.put, List.setIfInBounds_toArray, List.set_cons_zero, List.set_cons_succ, i64_w, i32_w]
          rfl
        refine take_ (i := 1) (N := some 16) (v := ?_) (a' := ?_) #[true, true, false, false, false, false] rfl rfl (by kernel_rfl) (fun _ _ _ h => h) (Or.inl ⟨by rfl, ?_⟩) hHeld ?_ ?_
        rotate_left
        · rintro w' ⟨s0, s1⟩
          go_simp
          with_reducible rfl
        rotate_left
        · simp only [Act.put, List.setIfInBounds_toArray, List.set_cons_zero, List.set_cons_succ, i64_w, i32_w]
          rfl
        refine one_ (i := 2) (N := some 11) #[true, true, true, false, false, false] rfl rfl (by kernel_rfl) (by decide) (fun K hK => ?_)
        refine box_step ?hg (N := 11) ?hd (cs := #[.int .u64 0, .int .u64 0]) (t := 89) ?hr ?_; (case hd => rfl); (case hg => rfl); (case hr => first | (go_simp; done) | (go_simp; rfl))
        intro gb304 hg w122 hbox hb
        have BK304 := Aside0.mk (hbox)
        have GW304 := ge HB hg
        have GE304 := ge HB hg
        have NB301_304 := nl BK301 hg
        have NB304_301 := ng NB301_304
        have NB302_304 := nl BK302 hg
        have NB304_302 := ng NB302_304
        have NB303_304 := nl BK303 hg
        have NB304_303 := ng NB303_304
        replace BK301 := bb BK301 hb
        replace BK302 := bb BK302 hb
        replace BK303 := bb BK303 hb
        replace HB := bs HB hb
        clear hb hbox hg
        refine hK.out _ _ ⟨(blk_cell BK301.out 0).trans rfl, (blk_cell BK301.out 1).trans rfl⟩ (fun hHeld => ?_)
        clear hK K
        refine norm_ (a' := ?_) ?_ ?_
        rotate_left
        · show Act.put _ (some 11) _ = _
          simp only [Act.put, List.setIfInBounds_toArray, List.set_cons_zero, List.set_cons_succ, i64_w, i32_w]
          rfl
        refine pure_ (i := 3) (N := some 10) (v := ?_) (a' := ?_) #[true, true, true, true, false, false] rfl rfl (by kernel_rfl) (fun _ _ _ h => h) (Or.inl ⟨by rfl, ?_⟩) ?_ ?_
        rotate_left
        · intro w'
          go_simp
          with_reducible rfl
        rotate_left
        · simp only [Act.put, List.setIfInBounds_toArray, List.set_cons_zero, List.set_cons_succ, i64_w, i32_w]
          rfl
        refine one_ (i := 4) (N := none) #[true, true, true, true, true, false] rfl rfl (by kernel_rfl) (by decide) (fun K hK => ?_)
        have hs123 : w122.cell? ⟨gb304, 0, none⟩ = some (.int .u64 0) := (blk_cell BK304.out 0).trans rfl
        have hfs123 := blk_frozen BK304.out 0
        have hns123_0 := NB301_304.out
        have hns123_1 := NB302_304.out
        have hns123_2 := NB303_304.out
        have hms123_0 := NB304_301.out
        have hms123_1 := NB304_302.out
        have hms123_2 := NB304_303.out
        have hs124 : w122.cell? ⟨gb304, 1, none⟩ = some (.int .u64 0) := (blk_cell BK304.out 1).trans rfl
        have hfs124 := blk_frozen BK304.out 1
        have hns124_0 := NB301_304.out
        have hns124_1 := NB302_304.out
        have hns124_2 := NB303_304.out
        have hms124_0 := NB304_301.out
        have hms124_1 := NB304_302.out
        have hms124_2 := NB304_303.out
        refine skip_ (w1 := ?_) (by rfl) rfl ?_ ?_
        rotate_left
        · go_simp
          rfl
        refine hK.out _ _ ⟨((cell_far (p := ⟨gb304, _, none⟩) NB301_304.out _).trans (((cell_far (p := ⟨gb304, _, none⟩) NB301_304.out _).trans (hHeld.1)))), ((cell_far (p := ⟨gb304, _, none⟩) NB301_304.out _).trans (((cell_far (p := ⟨gb304, _, none⟩) NB301_304.out _).trans (hHeld.2))))⟩ (fun hHeld => ?_)
        clear hK K
        refine pure_ (i := 5) (N := some 12) (v := ?_) (a' := ?_) #[true, true, true, true, true, true] rfl rfl (by kernel_rfl) (fun _ _ _ h => h) (Or.inl ⟨by rfl, ?_⟩) ?_ ?_
        rotate_left
        · intro w'
          go_simp
          with_reducible rfl
        rotate_left
        · simp only [Act.put, List.setIfInBounds_toArray, List.set_cons_zero, List.set_cons_succ, i64_w, i32_w]
          rfl
        refine done_ (by kernel_rfl) ?_
        have hnb125 := NB301_302.out
        have hnc125 := NB302_301.out
        have hnb126 := NB301_303.out
        have hnc126 := NB303_301.out
        have hnb127 := NB301_304.out
        have hnc127 := NB304_301.out
        obtain ⟨hcz128_0, hcz128_1, hfz128_0, hfz128_1⟩ := cz2 BK301
        have hnb129 := NB302_303.out
        have hnc129 := NB303_302.out
        have hnb130 := NB302_304.out
        have hnc130 := NB304_302.out
        obtain ⟨hcz131_0, hcz131_1, hfz131_0, hfz131_1⟩ := cz2 BK302
        try go_wp2_with (first | ((with_reducible refine gate_callee (f := 71) rfl ?_); refine goesL_ (some 33) rfl rfl Try.func71 (by kernel_rfl) rfl #[.agg #[.int .u64 a1_0, .int .u64 a1_1], .agg #[.int .u64 a3_0, .int .u64 a3_1]] rfl zm ?_; (with_reducible refine (corebankref01_Less.calls a1_0 a1_1 a3_0 a3_1 true _ A85.out).mono ?_); rintro e w132 ⟨rfl, hb⟩; refine ⟨_, rfl, ?_⟩; replace BK301 := bb BK301 hb; replace BK302 := bb BK302 hb; replace BK303 := bb BK303 hb; replace BK304 := bpb BK304 hb #[.int .u64 a1_0, .int .u64 a1_1]; replace HB := bs HB hb; (try clear hb); (try clear hb2); (try clear hk); (try clear hi); obtain ⟨hcz133_0, hcz133_1, hfz133_0, hfz133_1⟩ := cz2 BK302; obtain ⟨hcz134_0, hcz134_1, hfz134_0, hfz134_1⟩ := cz2 BK301) | ((with_reducible refine gate_callee (f := 72) rfl ?_); refine goesL_ (some 37) rfl rfl Try.func72 (by kernel_rfl) rfl #[.agg #[.int .u64 a3_0, .int .u64 a3_1], .agg #[.int .u64 a1_0, .int .u64 a1_1]] rfl zm ?_; (with_reducible refine (corebankref01_minus.calls a3_0 a3_1 a1_0 a1_1 t313 t314 _ A87.out).mono ?_); rintro e w135 ⟨rfl, hb⟩; refine ⟨_, rfl, ?_⟩; replace BK301 := bb BK301 hb; replace BK302 := bb BK302 hb; replace BK303 := bb BK303 hb; replace BK304 := bb BK304 hb; replace HB := bs HB hb; (try clear hb); (try clear hb2); (try clear hk); (try clear hi); have hnb136 := NB304_303.out; have hnc136 := NB303_304.out; obtain ⟨hcz137_0, hcz137_1, hfz137_0, hfz137_1⟩ := cz2 BK304) | ((with_reducible refine gate_callee (f := 69) rfl ?_); refine goesL_ (some 41) rfl rfl Try.func69 (by kernel_rfl) rfl #[.bool a2, .agg #[.int .u64 t313, .int .u64 t314]] rfl zm ?_; (with_reducible refine (corebankref01_Join.calls a2 t313 t314 t315 t316 false _ A88.out).mono ?_); rintro e w138 ⟨rfl, hb⟩; refine ⟨_, rfl, ?_⟩; replace BK301 := bb BK301 hb; replace BK302 := bb BK302 hb; replace BK303 := bb BK303 hb; replace BK304 := bpb BK304 hb #[.int .u64 t313, .int .u64 t314]; replace HB := bs HB hb; (try clear hb); (try clear hb2); (try clear hk); (try clear hi)) | ((with_reducible refine gate_dst (N := 13) rfl ?_); refine box_event ?hg (N := 13) ?hd (cs := #[.int .i64 0, .int .u64 0]) (t := 35) ?hr ?_; (case hd => rfl); (case hg => rfl); (case hr => first | (go_simp; done) | (go_simp; rfl)); intro gb318 hg w139 hbox hb; have BK318 := Aside0.mk (hbox); have GW318 := ge HB hg; have GE318 := ge HB hg; have NB301_318 := nl BK301 hg; have NB318_301 := ng NB301_318; have NB302_318 := nl BK302 hg; have NB318_302 := ng NB302_318; have NB303_318 := nl BK303 hg; have NB318_303 := ng NB303_318; have NB304_318 := nl BK304 hg; have NB318_304 := ng NB304_318; replace BK301 := bb BK301 hb; replace BK302 := bb BK302 hb; replace BK303 := bb BK303 hb; replace BK304 := bb BK304 hb; replace HB := bs HB hb; clear hb hbox hg; have hnb140 := NB318_301.out; have hnc140 := NB301_318.out; have hnb141 := NB318_302.out; have hnc141 := NB302_318.out; have hnb142 := NB318_303.out; have hnc142 := NB303_318.out; have hnb143 := NB318_304.out; have hnc143 := NB304_318.out; obtain ⟨hcz144_0, hcz144_1, hfz144_0, hfz144_1⟩ := cz2 BK318; obtain ⟨hcz145_0, hcz145_1, hfz145_0, hfz145_1⟩ := cz2 BK303))
        refine bodyPost_ret (results_ct rfl _ _ gb303 35 #[.int .i64 0, .int .u64 0] (0, 0) _ rfl (bp BK303) Try.underlying35 rfl (by kernel_rfl)) rfl ?_
        exact ⟨by first | rfl | (simp [errW_none, errW_some] <;> rfl) | (simp [*, errW_none, errW_some] <;> rfl), hq HB⟩
    · replace c86 := Bool.eq_false_iff.mpr c86
      subst c86
      have H1 : ((corebankref01_minus.f a1_0 a1_1 a3_0 a3_1).bind fun bt319 => ((corebankref01_Join.f a0 bt319.1 bt319.2).bind fun bt321 => (if bt321.2.2 = true then (some (bt321.1, bt321.2.1, 0)) else (some (0, 0, 6))))) = some (r1, r2, r3) := by rw [if_neg (show ¬ (false = true) by decide)] at H; exact H
      clear H
      have H := H1
      clear H1
      replace H := Option.bind_eq_some_iff.mp H
      obtain ⟨⟨t319, t320⟩, A1460, H⟩ := H
      replace H : ((corebankref01_Join.f a0 t319 t320).bind fun bt321 => (if bt321.2.2 = true then (some (bt321.1, bt321.2.1, 0)) else (some (0, 0, 6)))) = some (r1, r2, r3) := H
      have A146 := Aside0.mk A1460
      clear A1460
      replace H := Option.bind_eq_some_iff.mp H
      obtain ⟨⟨t321, t322, t323⟩, A1470, H⟩ := H
      replace H : (if t323 = true then (some (t321, t322, 0)) else (some (0, 0, 6))) = some (r1, r2, r3) := H
      have A147 := Aside0.mk A1470
      clear A1470
      by_cases c148 : t323 = true
      · subst c148
        have H1 : (some (t321, t322, 0)) = some (r1, r2, r3) := by rw [if_pos rfl] at H; exact H
        clear H
        have H := H1
        clear H1
        simp only [Option.some.injEq, Prod.mk.injEq] at H
        obtain ⟨rfl, rfl, rfl⟩ := H
        go_enter Try.func49, Try.ntmps49
        try go_wp2_with (first | ((with_reducible refine gate_dst (N := 5) rfl ?_); refine box_event ?hg (N := 5) ?hd (cs := #[.int .u64 a1_0, .int .u64 a1_1]) (t := 89) ?hr ?_; (case hd => rfl); (case hg => rfl); (case hr => first | (go_simp; done) | (go_simp; rfl)); intro gb301 hg w149 hbox hb; have BK301 := Aside0.mk (hbox); have GW301 := ge HB hg; have GE301 := ge HB hg; replace HB := bs HB hb; clear hb hbox hg) | ((with_reducible refine gate_dst (N := 7) rfl ?_); refine box_event ?hg (N := 7) ?hd (cs := #[.int .u64 a3_0, .int .u64 a3_1]) (t := 89) ?hr ?_; (case hd => rfl); (case hg => rfl); (case hr => first | (go_simp; done) | (go_simp; rfl)); intro gb302 hg w150 hbox hb; have BK302 := Aside0.mk (hbox); have GW302 := ge HB hg; have GE302 := ge HB hg; have NB301_302 := nl BK301 hg; have NB302_301 := ng NB301_302; replace BK301 := bb BK301 hb; replace HB := bs HB hb; clear hb hbox hg) | ((with_reducible refine gate_dst (N := 8) rfl ?_); refine box_event ?hg (N := 8) ?hd (cs := #[.int .i64 0, .int .u64 0]) (t := 35) ?hr ?_; (case hd => rfl); (case hg => rfl); (case hr => first | (go_simp; done) | (go_simp; rfl)); intro gb303 hg w151 hbox hb; have BK303 := Aside0.mk (hbox); have GW303 := ge HB hg; have GE303 := ge HB hg; have NB301_303 := nl BK301 hg; have NB303_301 := ng NB301_303; have NB302_303 := nl BK302 hg; have NB303_302 := ng NB302_303; replace BK301 := bb BK301 hb; replace BK302 := bb BK302 hb; replace HB := bs HB hb; clear hb hbox hg))
        replace BK301 := bd1 BK301
        replace BK302 := bd1 BK302
        replace BK303 := bd1 BK303
        replace HB := hb1 HB
        refine start_ (n := 6) (S := fun w' => w'.cell? ⟨gb301, 0, none⟩ = some (.int .u64 a1_0) ∧ w'.cell? ⟨gb301, 1, none⟩ = some (.int .u64 a1_1)) (ds := []) #[false, false, false, false, false, false] (by kernel_rfl) rfl rfl ⟨(blk_cell BK301.out 0).trans rfl, (blk_cell BK301.out 1).trans rfl⟩ (fun hHeld => ?_)
        generalize w151.drew = w152 at BK301 BK302 BK303 HB hHeld ⊢
        refine pure_ (i := 0) (N := some 15) (v := ?_) (a' := ?_) #[true, false, false, false, false, false] rfl rfl (by kernel_rfl) (fun _ _ _ h => h) (Or.inl ⟨by rfl, ?_⟩) ?_ ?_
        rotate_left
        · intro w'
          go_simp
          with_reducible rfl
        rotate_left
        · simp only [Act.put, List.setIfInBounds_toArray, List.set_cons_zero, List.set_cons_succ, i64_w, i32_w]
          rfl
        refine take_ (i := 1) (N := some 16) (v := ?_) (a' := ?_) #[true, true, false, false, false, false] rfl rfl (by kernel_rfl) (fun _ _ _ h => h) (Or.inl ⟨by rfl, ?_⟩) hHeld ?_ ?_
        rotate_left
        · rintro w' ⟨s0, s1⟩
          go_simp
          with_reducible rfl
        rotate_left
        · simp only [Act.put, List.setIfInBounds_toArray, List.set_cons_zero, List.set_cons_succ, i64_w, i32_w]
          rfl
        refine one_ (i := 2) (N := some 11) #[true, true, true, false, false, false] rfl rfl (by kernel_rfl) (by decide) (fun K hK => ?_)
        refine box_step ?hg (N := 11) ?hd (cs := #[.int .u64 0, .int .u64 0]) (t := 89) ?hr ?_; (case hd => rfl); (case hg => rfl); (case hr => first | (go_simp; done) | (go_simp; rfl))
        intro gb304 hg w153 hbox hb
        have BK304 := Aside0.mk (hbox)
        have GW304 := ge HB hg
        have GE304 := ge HB hg
        have NB301_304 := nl BK301 hg
        have NB304_301 := ng NB301_304
        have NB302_304 := nl BK302 hg
        have NB304_302 := ng NB302_304
        have NB303_304 := nl BK303 hg
        have NB304_303 := ng NB303_304
        replace BK301 := bb BK301 hb
        replace BK302 := bb BK302 hb
        replace BK303 := bb BK303 hb
        replace HB := bs HB hb
        clear hb hbox hg
        refine hK.out _ _ ⟨(blk_cell BK301.out 0).trans rfl, (blk_cell BK301.out 1).trans rfl⟩ (fun hHeld => ?_)
        clear hK K
        refine norm_ (a' := ?_) ?_ ?_
        rotate_left
        · show Act.put _ (some 11) _ = _
          simp only [Act.put, List.setIfInBounds_toArray, List.set_cons_zero, List.set_cons_succ, i64_w, i32_w]
          rfl
        refine pure_ (i := 3) (N := some 10) (v := ?_) (a' := ?_) #[true, true, true, true, false, false] rfl rfl (by kernel_rfl) (fun _ _ _ h => h) (Or.inl ⟨by rfl, ?_⟩) ?_ ?_
        rotate_left
        · intro w'
          go_simp
          with_reducible rfl
        rotate_left
        · simp only [Act.put, List.setIfInBounds_toArray, List.set_cons_zero, List.set_cons_succ, i64_w, i32_w]
          rfl
        refine one_ (i := 4) (N := none) #[true, true, true, true, true, false] rfl rfl (by kernel_rfl) (by decide) (fun K hK => ?_)
        have hs154 : w153.cell? ⟨gb304, 0, none⟩ = some (.int .u64 0) := (blk_cell BK304.out 0).trans rfl
        have hfs154 := blk_frozen BK304.out 0
        have hns154_0 := NB301_304.out
        have hns154_1 := NB302_304.out
        have hns154_2 := NB303_304.out
        have hms154_0 := NB304_301.out
        have hms154_1 := NB304_302.out
        have hms154_2 := NB304_303.out
        have hs155 : w153.cell? ⟨gb304, 1, none⟩ = some (.int .u64 0) := (blk_cell BK304.out 1).trans rfl
        have hfs155 := blk_frozen BK304.out 1
        have hns155_0 := NB301_304.out
        have hns155_1 := NB302_304.out
        have hns155_2 := NB303_304.out
        have hms155_0 := NB304_301.out
        have hms155_1 := NB304_302.out
        have hms155_2 := NB304_303.out
        refine skip_ (w1 := ?_) (by rfl) rfl ?_ ?_
        rotate_left
        · go_simp
          rfl
        refine hK.out _ _ ⟨((cell_far (p := ⟨gb304, _, none⟩) NB301_304.out _).trans (((cell_far (p := ⟨gb304, _, none⟩) NB301_304.out _).trans (hHeld.1)))), ((cell_far (p := ⟨gb304, _, none⟩) NB301_304.out _).trans (((cell_far (p := ⟨gb304, _, none⟩) NB301_304.out _).trans (hHeld.2))))⟩ (fun hHeld => ?_)
        clear hK K
        refine pure_ (i := 5) (N := some 12) (v := ?_) (a' := ?_) #[true, true, true, true, true, true] rfl rfl (by kernel_rfl) (fun _ _ _ h => h) (Or.inl ⟨by rfl, ?_⟩) ?_ ?_
        rotate_left
        · intro w'
          go_simp
          with_reducible rfl
        rotate_left
        · simp only [Act.put, List.setIfInBounds_toArray, List.set_cons_zero, List.set_cons_succ, i64_w, i32_w]
          rfl
        refine done_ (by kernel_rfl) ?_
        have hnb156 := NB301_302.out
        have hnc156 := NB302_301.out
        have hnb157 := NB301_303.out
        have hnc157 := NB303_301.out
        have hnb158 := NB301_304.out
        have hnc158 := NB304_301.out
        obtain ⟨hcz159_0, hcz159_1, hfz159_0, hfz159_1⟩ := cz2 BK301
        have hnb160 := NB302_303.out
        have hnc160 := NB303_302.out
        have hnb161 := NB302_304.out
        have hnc161 := NB304_302.out
        obtain ⟨hcz162_0, hcz162_1, hfz162_0, hfz162_1⟩ := cz2 BK302
        try go_wp2_with (first | ((with_reducible refine gate_callee (f := 71) rfl ?_); refine goesL_ (some 33) rfl rfl Try.func71 (by kernel_rfl) rfl #[.agg #[.int .u64 a1_0, .int .u64 a1_1], .agg #[.int .u64 a3_0, .int .u64 a3_1]] rfl zm ?_; (with_reducible refine (corebankref01_Less.calls a1_0 a1_1 a3_0 a3_1 false _ A85.out).mono ?_); rintro e w163 ⟨rfl, hb⟩; refine ⟨_, rfl, ?_⟩; replace BK301 := bb BK301 hb; replace BK302 := bb BK302 hb; replace BK303 := bb BK303 hb; replace BK304 := bpb BK304 hb #[.int .u64 a1_0, .int .u64 a1_1]; replace HB := bs HB hb; (try clear hb); (try clear hb2); (try clear hk); (try clear hi); obtain ⟨hcz164_0, hcz164_1, hfz164_0, hfz164_1⟩ := cz2 BK301; obtain ⟨hcz165_0, hcz165_1, hfz165_0, hfz165_1⟩ := cz2 BK302) | ((with_reducible refine gate_callee (f := 72) rfl ?_); refine goesL_ (some 19) rfl rfl Try.func72 (by kernel_rfl) rfl #[.agg #[.int .u64 a1_0, .int .u64 a1_1], .agg #[.int .u64 a3_0, .int .u64 a3_1]] rfl zm ?_; (with_reducible refine (corebankref01_minus.calls a1_0 a1_1 a3_0 a3_1 t319 t320 _ A146.out).mono ?_); rintro e w166 ⟨rfl, hb⟩; refine ⟨_, rfl, ?_⟩; replace BK301 := bb BK301 hb; replace BK302 := bb BK302 hb; replace BK303 := bb BK303 hb; replace BK304 := bb BK304 hb; replace HB := bs HB hb; (try clear hb); (try clear hb2); (try clear hk); (try clear hi); have hnb167 := NB304_303.out; have hnc167 := NB303_304.out; obtain ⟨hcz168_0, hcz168_1, hfz168_0, hfz168_1⟩ := cz2 BK304) | ((with_reducible refine gate_callee (f := 69) rfl ?_); refine goesL_ (some 41) rfl rfl Try.func69 (by kernel_rfl) rfl #[.bool a0, .agg #[.int .u64 t319, .int .u64 t320]] rfl zm ?_; (with_reducible refine (corebankref01_Join.calls a0 t319 t320 t321 t322 true _ A147.out).mono ?_); rintro e w169 ⟨rfl, hb⟩; refine ⟨_, rfl, ?_⟩; replace BK301 := bb BK301 hb; replace BK302 := bb BK302 hb; replace BK303 := bb BK303 hb; replace BK304 := bpb BK304 hb #[.int .u64 t319, .int .u64 t320]; replace HB := bs HB hb; (try clear hb); (try clear hb2); (try clear hk); (try clear hi)) | ((with_reducible refine gate_dst (N := 13) rfl ?_); refine box_event ?hg (N := 13) ?hd (cs := #[.int .i64 0, .int .u64 0]) (t := 35) ?hr ?_; (case hd => rfl); (case hg => rfl); (case hr => first | (go_simp; done) | (go_simp; rfl)); intro gb324 hg w170 hbox hb; have BK324 := Aside0.mk (hbox); have GW324 := ge HB hg; have GE324 := ge HB hg; have NB301_324 := nl BK301 hg; have NB324_301 := ng NB301_324; have NB302_324 := nl BK302 hg; have NB324_302 := ng NB302_324; have NB303_324 := nl BK303 hg; have NB324_303 := ng NB303_324; have NB304_324 := nl BK304 hg; have NB324_304 := ng NB304_324; replace BK301 := bb BK301 hb; replace BK302 := bb BK302 hb; replace BK303 := bb BK303 hb; replace BK304 := bb BK304 hb; replace HB := bs HB hb; clear hb hbox hg; have hnb171 := NB324_301.out; have hnc171 := NB301_324.out; have hnb172 := NB324_302.out; have hnc172 := NB302_324.out; have hnb173 := NB324_303.out; have hnc173 := NB303_324.out; have hnb174 := NB324_304.out; have hnc174 := NB304_324.out; obtain ⟨hcz175_0, hcz175_1, hfz175_0, hfz175_1⟩ := cz2 BK324; obtain ⟨hcz176_0, hcz176_1, hfz176_0, hfz176_1⟩ := cz2 BK303))
        refine bodyPost_ret (results_ct rfl _ _ gb303 35 #[.int .i64 t321, .int .u64 t322] (0, 0) _ rfl (bp BK303) Try.underlying35 rfl (by kernel_rfl)) rfl ?_
        exact ⟨by first | rfl | (simp [errW_none, errW_some] <;> rfl) | (simp [*, errW_none, errW_some] <;> rfl), hq HB⟩
      · replace c148 := Bool.eq_false_iff.mpr c148
        subst c148
        have H1 : (some (0, 0, 6)) = some (r1, r2, r3) := by rw [if_neg (show ¬ (false = true) by decide)] at H; exact H
        clear H
        have H := H1
        clear H1
        simp only [Option.some.injEq, Prod.mk.injEq] at H
        obtain ⟨rfl, rfl, rfl⟩ := H
        go_enter Try.func49, Try.ntmps49
        try go_wp2_with (first | ((with_reducible refine gate_dst (N := 5) rfl ?_); refine box_event ?hg (N := 5) ?hd (cs := #[.int .u64 a1_0, .int .u64 a1_1]) (t := 89) ?hr ?_; (case hd => rfl); (case hg => rfl); (case hr => first | (go_simp; done) | (go_simp; rfl)); intro gb301 hg w177 hbox hb; have BK301 := Aside0.mk (hbox); have GW301 := ge HB hg; have GE301 := ge HB hg; replace HB := bs HB hb; clear hb hbox hg) | ((with_reducible refine gate_dst (N := 7) rfl ?_); refine box_event ?hg (N := 7) ?hd (cs := #[.int .u64 a3_0, .int .u64 a3_1]) (t := 89) ?hr ?_; (case hd => rfl); (case hg => rfl); (case hr => first | (go_simp; done) | (go_simp; rfl)); intro gb302 hg w178 hbox hb; have BK302 := Aside0.mk (hbox); have GW302 := ge HB hg; have GE302 := ge HB hg; have NB301_302 := nl BK301 hg; have NB302_301 := ng NB301_302; replace BK301 := bb BK301 hb; replace HB := bs HB hb; clear hb hbox hg) | ((with_reducible refine gate_dst (N := 8) rfl ?_); refine box_event ?hg (N := 8) ?hd (cs := #[.int .i64 0, .int .u64 0]) (t := 35) ?hr ?_; (case hd => rfl); (case hg => rfl); (case hr => first | (go_simp; done) | (go_simp; rfl)); intro gb303 hg w179 hbox hb; have BK303 := Aside0.mk (hbox); have GW303 := ge HB hg; have GE303 := ge HB hg; have NB301_303 := nl BK301 hg; have NB303_301 := ng NB301_303; have NB302_303 := nl BK302 hg; have NB303_302 := ng NB302_303; replace BK301 := bb BK301 hb; replace BK302 := bb BK302 hb; replace HB := bs HB hb; clear hb hbox hg))
        replace BK301 := bd1 BK301
        replace BK302 := bd1 BK302
        replace BK303 := bd1 BK303
        replace HB := hb1 HB
        refine start_ (n := 6) (S := fun w' => w'.cell? ⟨gb301, 0, none⟩ = some (.int .u64 a1_0) ∧ w'.cell? ⟨gb301, 1, none⟩ = some (.int .u64 a1_1)) (ds := []) #[false, false, false, false, false, false] (by kernel_rfl) rfl rfl ⟨(blk_cell BK301.out 0).trans rfl, (blk_cell BK301.out 1).trans rfl⟩ (fun hHeld => ?_)
        generalize w179.drew = w180 at BK301 BK302 BK303 HB hHeld ⊢
        refine pure_ (i := 0) (N := some 15) (v := ?_) (a' := ?_) #[true, false, false, false, false, false] rfl rfl (by kernel_rfl) (fun _ _ _ h => h) (Or.inl ⟨by rfl, ?_⟩) ?_ ?_
        rotate_left
        · intro w'
          go_simp
          with_reducible rfl
        rotate_left
        · simp only [Act.put, List.setIfInBounds_toArray, List.set_cons_zero, List.set_cons_succ, i64_w, i32_w]
          rfl
        refine take_ (i := 1) (N := some 16) (v := ?_) (a' := ?_) #[true, true, false, false, false, false] rfl rfl (by kernel_rfl) (fun _ _ _ h => h) (Or.inl ⟨by rfl, ?_⟩) hHeld ?_ ?_
        rotate_left
        · rintro w' ⟨s0, s1⟩
          go_simp
          with_reducible rfl
        rotate_left
        · simp only [Act.put, List.setIfInBounds_toArray, List.set_cons_zero, List.set_cons_succ, i64_w, i32_w]
          rfl
        refine one_ (i := 2) (N := some 11) #[true, true, true, false, false, false] rfl rfl (by kernel_rfl) (by decide) (fun K hK => ?_)
        refine box_step ?hg (N := 11) ?hd (cs := #[.int .u64 0, .int .u64 0]) (t := 89) ?hr ?_; (case hd => rfl); (case hg => rfl); (case hr => first | (go_simp; done) | (go_simp; rfl))
        intro gb304 hg w181 hbox hb
        have BK304 := Aside0.mk (hbox)
        have GW304 := ge HB hg
        have GE304 := ge HB hg
        have NB301_304 := nl BK301 hg
        have NB304_301 := ng NB301_304
        have NB302_304 := nl BK302 hg
        have NB304_302 := ng NB302_304
        have NB303_304 := nl BK303 hg
        have NB304_303 := ng NB303_304
        replace BK301 := bb BK301 hb
        replace BK302 := bb BK302 hb
        replace BK303 := bb BK303 hb
        replace HB := bs HB hb
        clear hb hbox hg
        refine hK.out _ _ ⟨(blk_cell BK301.out 0).trans rfl, (blk_cell BK301.out 1).trans rfl⟩ (fun hHeld => ?_)
        clear hK K
        refine norm_ (a' := ?_) ?_ ?_
        rotate_left
        · show Act.put _ (some 11) _ = _
          simp only [Act.put, List.setIfInBounds_toArray, List.set_cons_zero, List.set_cons_succ, i64_w, i32_w]
          rfl
        refine pure_ (i := 3) (N := some 10) (v := ?_) (a' := ?_) #[true, true, true, true, false, false] rfl rfl (by kernel_rfl) (fun _ _ _ h => h) (Or.inl ⟨by rfl, ?_⟩) ?_ ?_
        rotate_left
        · intro w'
          go_simp
          with_reducible rfl
        rotate_left
        · simp only [Act.put, List.setIfInBounds_toArray, List.set_cons_zero, List.set_cons_succ, i64_w, i32_w]
          rfl
        refine one_ (i := 4) (N := none) #[true, true, true, true, true, false] rfl rfl (by kernel_rfl) (by decide) (fun K hK => ?_)
        have hs182 : w181.cell? ⟨gb304, 0, none⟩ = some (.int .u64 0) := (blk_cell BK304.out 0).trans rfl
        have hfs182 := blk_frozen BK304.out 0
        have hns182_0 := NB301_304.out
        have hns182_1 := NB302_304.out
        have hns182_2 := NB303_304.out
        have hms182_0 := NB304_301.out
        have hms182_1 := NB304_302.out
        have hms182_2 := NB304_303.out
        have hs183 : w181.cell? ⟨gb304, 1, none⟩ = some (.int .u64 0) := (blk_cell BK304.out 1).trans rfl
        have hfs183 := blk_frozen BK304.out 1
        have hns183_0 := NB301_304.out
        have hns183_1 := NB302_304.out
        have hns183_2 := NB303_304.out
        have hms183_0 := NB304_301.out
        have hms183_1 := NB304_302.out
        have hms183_2 := NB304_303.out
        refine skip_ (w1 := ?_) (by rfl) rfl ?_ ?_
        rotate_left
        · go_simp
          rfl
        refine hK.out _ _ ⟨((cell_far (p := ⟨gb304, _, none⟩) NB301_304.out _).trans (((cell_far (p := ⟨gb304, _, none⟩) NB301_304.out _).trans (hHeld.1)))), ((cell_far (p := ⟨gb304, _, none⟩) NB301_304.out _).trans (((cell_far (p := ⟨gb304, _, none⟩) NB301_304.out _).trans (hHeld.2))))⟩ (fun hHeld => ?_)
        clear hK K
        refine pure_ (i := 5) (N := some 12) (v := ?_) (a' := ?_) #[true, true, true, true, true, true] rfl rfl (by kernel_rfl) (fun _ _ _ h => h) (Or.inl ⟨by rfl, ?_⟩) ?_ ?_
        rotate_left
        · intro w'
          go_simp
          with_reducible rfl
        rotate_left
        · simp only [Act.put, List.setIfInBounds_toArray, List.set_cons_zero, List.set_cons_succ, i64_w, i32_w]
          rfl
        refine done_ (by kernel_rfl) ?_
        have hnb184 := NB301_302.out
        have hnc184 := NB302_301.out
        have hnb185 := NB301_303.out
        have hnc185 := NB303_301.out
        have hnb186 := NB301_304.out
        have hnc186 := NB304_301.out
        obtain ⟨hcz187_0, hcz187_1, hfz187_0, hfz187_1⟩ := cz2 BK301
        have hnb188 := NB302_303.out
        have hnc188 := NB303_302.out
        have hnb189 := NB302_304.out
        have hnc189 := NB304_302.out
        obtain ⟨hcz190_0, hcz190_1, hfz190_0, hfz190_1⟩ := cz2 BK302
        try go_wp2_with (first | ((with_reducible refine gate_callee (f := 71) rfl ?_); refine goesL_ (some 33) rfl rfl Try.func71 (by kernel_rfl) rfl #[.agg #[.int .u64 a1_0, .int .u64 a1_1], .agg #[.int .u64 a3_0, .int .u64 a3_1]] rfl zm ?_; (with_reducible refine (corebankref01_Less.calls a1_0 a1_1 a3_0 a3_1 false _ A85.out).mono ?_); rintro e w191 ⟨rfl, hb⟩; refine ⟨_, rfl, ?_⟩; replace BK301 := bb BK301 hb; replace BK302 := bb BK302 hb; replace BK303 := bb BK303 hb; replace BK304 := bpb BK304 hb #[.int .u64 a1_0, .int .u64 a1_1]; replace HB := bs HB hb; (try clear hb); (try clear hb2); (try clear hk); (try clear hi); obtain ⟨hcz192_0, hcz192_1, hfz192_0, hfz192_1⟩ := cz2 BK301; obtain ⟨hcz193_0, hcz193_1, hfz193_0, hfz193_1⟩ := cz2 BK302) | ((with_reducible refine gate_callee (f := 72) rfl ?_); refine goesL_ (some 19) rfl rfl Try.func72 (by kernel_rfl) rfl #[.agg #[.int .u64 a1_0, .int .u64 a1_1], .agg #[.int .u64 a3_0, .int .u64 a3_1]] rfl zm ?_; (with_reducible refine (corebankref01_minus.calls a1_0 a1_1 a3_0 a3_1 t319 t320 _ A146.out).mono ?_); rintro e w194 ⟨rfl, hb⟩; refine ⟨_, rfl, ?_⟩; replace BK301 := bb BK301 hb; replace BK302 := bb BK302 hb; replace BK303 := bb BK303 hb; replace BK304 := bb BK304 hb; replace HB := bs HB hb; (try clear hb); (try clear hb2); (try clear hk); (try clear hi); have hnb195 := NB304_303.out; have hnc195 := NB303_304.out; obtain ⟨hcz196_0, hcz196_1, hfz196_0, hfz196_1⟩ := cz2 BK304) | ((with_reducible refine gate_callee (f := 69) rfl ?_); refine goesL_ (some 41) rfl rfl Try.func69 (by kernel_rfl) rfl #[.bool a0, .agg #[.int .u64 t319, .int .u64 t320]] rfl zm ?_; (with_reducible refine (corebankref01_Join.calls a0 t319 t320 t321 t322 false _ A147.out).mono ?_); rintro e w197 ⟨rfl, hb⟩; refine ⟨_, rfl, ?_⟩; replace BK301 := bb BK301 hb; replace BK302 := bb BK302 hb; replace BK303 := bb BK303 hb; replace BK304 := bpb BK304 hb #[.int .u64 t319, .int .u64 t320]; replace HB := bs HB hb; (try clear hb); (try clear hb2); (try clear hk); (try clear hi)) | ((with_reducible refine gate_dst (N := 13) rfl ?_); refine box_event ?hg (N := 13) ?hd (cs := #[.int .i64 0, .int .u64 0]) (t := 35) ?hr ?_; (case hd => rfl); (case hg => rfl); (case hr => first | (go_simp; done) | (go_simp; rfl)); intro gb324 hg w198 hbox hb; have BK324 := Aside0.mk (hbox); have GW324 := ge HB hg; have GE324 := ge HB hg; have NB301_324 := nl BK301 hg; have NB324_301 := ng NB301_324; have NB302_324 := nl BK302 hg; have NB324_302 := ng NB302_324; have NB303_324 := nl BK303 hg; have NB324_303 := ng NB303_324; have NB304_324 := nl BK304 hg; have NB324_304 := ng NB304_324; replace BK301 := bb BK301 hb; replace BK302 := bb BK302 hb; replace BK303 := bb BK303 hb; replace BK304 := bb BK304 hb; replace HB := bs HB hb; clear hb hbox hg; have hnb199 := NB324_301.out; have hnc199 := NB301_324.out; have hnb200 := NB324_302.out; have hnc200 := NB302_324.out; have hnb201 := NB324_303.out; have hnc201 := NB303_324.out; have hnb202 := NB324_304.out; have hnc202 := NB304_324.out; obtain ⟨hcz203_0, hcz203_1, hfz203_0, hfz203_1⟩ := cz2 BK324; obtain ⟨hcz204_0, hcz204_1, hfz204_0, hfz204_1⟩ := cz2 BK303))
        refine bodyPost_ret (results_ct rfl _ _ gb303 35 #[.int .i64 0, .int .u64 0] (0, 0) _ rfl (bp BK303) Try.underlying35 rfl (by kernel_rfl)) rfl ?_
        exact ⟨by first | rfl | (simp [errW_none, errW_some] <;> rfl) | (simp [*, errW_none, errW_some] <;> rfl), hq HB⟩

end Go.Proofs.Ytlmabdiodopidaa.P
end
section
set_option linter.unusedVariables false
set_option linter.unusedSimpArgs false
namespace Go.Proofs.Ytlmabdiodopidaa.P
open Go.Proofs.Ytlmabdiodopidaa.G
attribute [local go_sem high] un_not64 un_noti run_add64
open Go.RowKit Go.Proofs.YtlmabdiodopidaaW.PrintWords Go.Proofs.YtlmabdiodopidaaW.PrintLast Go.Proofs.YtlmabdiodopidaaW.PrintMore
attribute [local go_sem] max2_int min2_int max_two min_two max_three min_three max_four min_four   -- for this text's walks alone
set_option linter.unusedVariables false
set_option linter.unusedSimpArgs false

/-! ### corebankref01_Add: function 28 -/
def corebankref01_Add.f (a0_0 : Int) (a0_1 : Int) (a1_0 : Int) (a1_1 : Int) : Option (Int × Int × Int) := (corebankref01_Split.f a0_0 a0_1).bind fun bt328 => ((corebankref01_Split.f a1_0 a1_1).bind fun bt332 => ((corebankref01_sum.f bt328.1 bt328.2.1 bt328.2.2 bt332.1 bt332.2.1 bt332.2.2).bind fun bt336 => (some (bt336.1, bt336.2.1, bt336.2.2))))
set_option maxHeartbeats 8000000 in
set_option maxRecDepth 100000 in
theorem corebankref01_Add.calls (a0_0 : Int) (a0_1 : Int) (a1_0 : Int) (a1_1 : Int) (r1 : Int) (r2 : Int) (r3 : Int) (w : World) (h : corebankref01_Add.f a0_0 a0_1 a1_0 a1_1 = some (r1, r2, r3)) :
    Calls Try.prog 28 #[.agg #[.int .i64 a0_0, .int .u64 a0_1], .agg #[.int .i64 a1_0, .int .u64 a1_1]] w fun e w' => e = .returned (.tuple #[.agg #[.int .i64 r1, .int .u64 r2], .int .i64 r3]) ∧ Below w.heap.size w w' := by
  have hu35 := Try.underlying35
  have hu89 := Try.underlying89
  have HB := Aside0.mk (Below.refl w.heap.size w)
  have H : ((corebankref01_Split.f a0_0 a0_1).bind fun bt328 => ((corebankref01_Split.f a1_0 a1_1).bind fun bt332 => ((corebankref01_sum.f bt328.1 bt328.2.1 bt328.2.2 bt332.1 bt332.2.1 bt332.2.2).bind fun bt336 => (some (bt336.1, bt336.2.1, bt336.2.2))))) = some (r1, r2, r3) := h
  clear h
  replace H := Option.bind_eq_some_iff.mp H
  obtain ⟨⟨t328, t329, t330⟩, A30, H⟩ := H
  replace H : ((corebankref01_Split.f a1_0 a1_1).bind fun bt332 => ((corebankref01_sum.f t328 t329 t330 bt332.1 bt332.2.1 bt332.2.2).bind fun bt336 => (some (bt336.1, bt336.2.1, bt336.2.2)))) = some (r1, r2, r3) := H
  have A3 := Aside0.mk A30
  clear A30
  replace H := Option.bind_eq_some_iff.mp H
  obtain ⟨⟨t332, t333, t334⟩, A40, H⟩ := H
  replace H : ((corebankref01_sum.f t328 t329 t330 t332 t333 t334).bind fun bt336 => (some (bt336.1, bt336.2.1, bt336.2.2))) = some (r1, r2, r3) := H
  have A4 := Aside0.mk A40
  clear A40
  replace H := Option.bind_eq_some_iff.mp H
  obtain ⟨⟨t336, t337, t338⟩, A50, H⟩ := H
  replace H : (some (t336, t337, t338)) = some (r1, r2, r3) := H
  have A5 := Aside0.mk A50
  clear A50
  simp only [Option.some.injEq, Prod.mk.injEq] at H
  obtain ⟨rfl, rfl, rfl⟩ := H
  go_enter Try.func28, Try.ntmps28
  go_wp2_with (first | ((with_reducible refine gate_dst (N := 2) rfl ?_); refine box_event ?hg (N := 2) ?hd (cs := #[.int .i64 a0_0, .int .u64 a0_1]) (t := 35) ?hr ?_; (case hd => rfl); (case hg => rfl); (case hr => first | (go_simp; done) | (go_simp; rfl)); intro gb325 hg w6 hbox hb; have BK325 := Aside0.mk (hbox); have GW325 := ge HB hg; have GE325 := ge HB hg; replace HB := bs HB hb; clear hb hbox hg) | ((with_reducible refine gate_dst (N := 3) rfl ?_); refine box_event ?hg (N := 3) ?hd (cs := #[.int .i64 a1_0, .int .u64 a1_1]) (t := 35) ?hr ?_; (case hd => rfl); (case hg => rfl); (case hr => first | (go_simp; done) | (go_simp; rfl)); intro gb326 hg w7 hbox hb; have BK326 := Aside0.mk (hbox); have GW326 := ge HB hg; have GE326 := ge HB hg; have NB325_326 := nl BK325 hg; have NB326_325 := ng NB325_326; replace BK325 := bb BK325 hb; replace HB := bs HB hb; clear hb hbox hg) | ((with_reducible refine gate_dst (N := 4) rfl ?_); refine box_event ?hg (N := 4) ?hd (cs := #[.int .i64 0, .int .u64 0]) (t := 35) ?hr ?_; (case hd => rfl); (case hg => rfl); (case hr => first | (go_simp; done) | (go_simp; rfl)); intro gb327 hg w8 hbox hb; have BK327 := Aside0.mk (hbox); have GW327 := ge HB hg; have GE327 := ge HB hg; have NB325_327 := nl BK325 hg; have NB327_325 := ng NB325_327; have NB326_327 := nl BK326 hg; have NB327_326 := ng NB326_327; replace BK325 := bb BK325 hb; replace BK326 := bb BK326 hb; replace HB := bs HB hb; clear hb hbox hg; have hnb9 := NB325_326.out; have hnc9 := NB326_325.out; have hnb10 := NB325_327.out; have hnc10 := NB327_325.out; obtain ⟨hcz11_0, hcz11_1, hfz11_0, hfz11_1⟩ := cz2 BK325) | ((with_reducible refine gate_callee (f := 48) rfl ?_); refine goesL_ (some 12) rfl rfl Try.func48 (by kernel_rfl) rfl #[.agg #[.int .i64 a0_0, .int .u64 a0_1]] rfl zm ?_; (with_reducible refine (corebankref01_Split.calls a0_0 a0_1 t328 t329 t330 _ A3.out).mono ?_); rintro e w12 ⟨rfl, hb⟩; refine ⟨_, rfl, ?_⟩; replace BK325 := bb BK325 hb; replace BK326 := bb BK326 hb; replace BK327 := bb BK327 hb; replace HB := bs HB hb; (try clear hb); (try clear hb2); (try clear hk); (try clear hi)) | ((with_reducible refine gate_dst (N := 7) rfl ?_); refine box_event ?hg (N := 7) ?hd (cs := #[.int .u64 0, .int .u64 0]) (t := 89) ?hr ?_; (case hd => rfl); (case hg => rfl); (case hr => first | (go_simp; done) | (go_simp; rfl)); intro gb331 hg w13 hbox hb; have BK331 := Aside0.mk (hbox); have GW331 := ge HB hg; have GE331 := ge HB hg; have NB325_331 := nl BK325 hg; have NB331_325 := ng NB325_331; have NB326_331 := nl BK326 hg; have NB331_326 := ng NB326_331; have NB327_331 := nl BK327 hg; have NB331_327 := ng NB327_331; replace BK325 := bb BK325 hb; replace BK326 := bb BK326 hb; replace BK327 := bb BK327 hb; replace HB := bs HB hb; clear hb hbox hg; have hnb14 := NB331_325.out; have hnc14 := NB325_331.out; have hnb15 := NB331_326.out; have hnc15 := NB326_331.out; have hnb16 := NB331_327.out; have hnc16 := NB327_331.out; obtain ⟨hcz17_0, hcz17_1, hfz17_0, hfz17_1⟩ := cz2 BK331; have hnb18 := NB326_327.out; have hnc18 := NB327_326.out; obtain ⟨hcz19_0, hcz19_1, hfz19_0, hfz19_1⟩ := cz2 BK326) | ((with_reducible refine gate_callee (f := 48) rfl ?_); refine goesL_ (some 17) rfl rfl Try.func48 (by kernel_rfl) rfl #[.agg #[.int .i64 a1_0, .int .u64 a1_1]] rfl zm ?_; (with_reducible refine (corebankref01_Split.calls a1_0 a1_1 t332 t333 t334 _ A4.out).mono ?_); rintro e w20 ⟨rfl, hb⟩; refine ⟨_, rfl, ?_⟩; replace BK325 := bb BK325 hb; replace BK326 := bb BK326 hb; replace BK327 := bb BK327 hb; replace BK331 := bpb BK331 hb #[.int .u64 t329, .int .u64 t330]; replace HB := bs HB hb; (try clear hb); (try clear hb2); (try clear hk); (try clear hi)) | ((with_reducible refine gate_dst (N := 9) rfl ?_); refine box_event ?hg (N := 9) ?hd (cs := #[.int .u64 0, .int .u64 0]) (t := 89) ?hr ?_; (case hd => rfl); (case hg => rfl); (case hr => first | (go_simp; done) | (go_simp; rfl)); intro gb335 hg w21 hbox hb; have BK335 := Aside0.mk (hbox); have GW335 := ge HB hg; have GE335 := ge HB hg; have NB325_335 := nl BK325 hg; have NB335_325 := ng NB325_335; have NB326_335 := nl BK326 hg; have NB335_326 := ng NB326_335; have NB327_335 := nl BK327 hg; have NB335_327 := ng NB327_335; have NB331_335 := nl BK331 hg; have NB335_331 := ng NB331_335; replace BK325 := bb BK325 hb; replace BK326 := bb BK326 hb; replace BK327 := bb BK327 hb; replace BK331 := bb BK331 hb; replace HB := bs HB hb; clear hb hbox hg; have hnb22 := NB335_325.out; have hnc22 := NB325_335.out; have hnb23 := NB335_326.out; have hnc23 := NB326_335.out; have hnb24 := NB335_327.out; have hnc24 := NB327_335.out; have hnb25 := NB335_331.out; have hnc25 := NB331_335.out; obtain ⟨hcz26_0, hcz26_1, hfz26_0, hfz26_1⟩ := cz2 BK335; obtain ⟨hcz27_0, hcz27_1, hfz27_0, hfz27_1⟩ := cz2 BK331) | ((with_reducible refine gate_callee (f := 49) rfl ?_); refine goesL_ (some 24) rfl rfl Try.func49 (by kernel_rfl) rfl #[.bool t328, .agg #[.int .u64 t329, .int .u64 t330], .bool t332, .agg #[.int .u64 t333, .int .u64 t334]] rfl zm ?_; (with_reducible refine (corebankref01_sum.calls t328 t329 t330 t332 t333 t334 t336 t337 t338 _ A5.out).mono ?_); rintro e w28 ⟨rfl, hb⟩; refine ⟨_, rfl, ?_⟩; replace BK325 := bb BK325 hb; replace BK326 := bb BK326 hb; replace BK327 := bb BK327 hb; replace BK331 := bb BK331 hb; replace BK335 := bpb BK335 hb #[.int .u64 t333, .int .u64 t334]; replace HB := bs HB hb; (try clear hb); (try clear hb2); (try clear hk); (try clear hi); obtain ⟨hcz29_0, hcz29_1, hfz29_0, hfz29_1⟩ := cz2 BK327))
  refine bodyPost_ret (results_ct rfl _ _ gb327 35 #[.int .i64 t336, .int .u64 t337] (0, 0) _ rfl (bp BK327) Try.underlying35 rfl (by kernel_rfl)) rfl ?_
  exact ⟨by first | rfl | (simp [errW_none, errW_some] <;> rfl) | (simp [*, errW_none, errW_some] <;> rfl), hq HB⟩

/-! ### corebankref01_times: function 67 -/
def corebankref01_times.l0 : Nat → Int → Bool → Int → Int → Int → Int → Int → Option (Int × Int × Bool)
  | 0, _, _, _, _, _, _, _ => none
  | k + 1, x1, x7, x8, x340000, x340001, x342000, x342001 => if x8 < 64 then ((corebankref01_plus.f x342000 x342001 x342000 x342001).bind fun bt342 => (if x7 = true then (if (Go.bits .and .u64 x1 9223372036854775808) = 0 then (corebankref01_times.l0 k (IntKind.u64.wrap (x1 * 2)) bt342.2.2 (wrap64 (x8 + 1)) x340000 x340001 bt342.1 bt342.2.1) else ((corebankref01_plus.f bt342.1 bt342.2.1 x340000 x340001).bind fun bt346 => (if bt342.2.2 = true then (corebankref01_times.l0 k (IntKind.u64.wrap (x1 * 2)) bt346.2.2 (wrap64 (x8 + 1)) x340000 x340001 bt346.1 bt346.2.1) else (corebankref01_times.l0 k (IntKind.u64.wrap (x1 * 2)) false (wrap64 (x8 + 1)) x340000 x340001 bt346.1 bt346.2.1)))) else (if (Go.bits .and .u64 x1 9223372036854775808) = 0 then (corebankref01_times.l0 k (IntKind.u64.wrap (x1 * 2)) false (wrap64 (x8 + 1)) x340000 x340001 bt342.1 bt342.2.1) else ((corebankref01_plus.f bt342.1 bt342.2.1 x340000 x340001).bind fun bt349 => (corebankref01_times.l0 k (IntKind.u64.wrap (x1 * 2)) false (wrap64 (x8 + 1)) x340000 x340001 bt349.1 bt349.2.1))))) else (some (x342000, x342001, x7))
def corebankref01_times.f (k : Nat) (a0_0 : Int) (a0_1 : Int) (a1 : Int) : Option (Int × Int × Bool) := corebankref01_times.l0 k a1 true 0 a0_0 a0_1 0 0
theorem corebankref01_times.mono_l : ∀ k, (∀ y0 y1 y2 y3 y4 y5 y6, LeO (corebankref01_times.l0 k y0 y1 y2 y3 y4 y5 y6) (corebankref01_times.l0 (k + 1) y0 y1 y2 y3 y4 y5 y6))
  | 0 => fun _ _ _ _ _ _ _ r h => by simp [corebankref01_times.l0] at h
  | k + 1 => by
    have ih0 := corebankref01_times.mono_l k
    · intro y0 y1 y2 y3 y4 y5 y6
      unfold corebankref01_times.l0
      repeat' first
      | (with_reducible exact ih0 _ _ _ _ _ _ _)
      | (with_reducible exact LeO.refl _)
      | (with_reducible exact LeO.none _)
      | (with_reducible refine LeO.ite ?_ ?_)
      | (with_reducible refine LeO.bind ?_ (fun _ => ?_))
      | exact ih0 _ _ _ _ _ _ _
      | exact LeO.none _
      | refine LeO.ite ?_ ?_
      | refine LeO.bind ?_ (fun _ => ?_)
theorem corebankref01_times.mono : ∀ a0 a1 a2 k, LeO (corebankref01_times.f k a0 a1 a2) (corebankref01_times.f (k + 1) a0 a1 a2) := by
  intro a0 a1 a2 k
  have ih0 := corebankref01_times.mono_l k
  unfold corebankref01_times.f
  repeat' first
      | (with_reducible exact ih0 _ _ _ _ _ _ _)
      | (with_reducible exact LeO.refl _)
      | (with_reducible exact LeO.none _)
      | (with_reducible refine LeO.ite ?_ ?_)
      | (with_reducible refine LeO.bind ?_ (fun _ => ?_))
      | exact ih0 _ _ _ _ _ _ _
      | exact LeO.none _
      | refine LeO.ite ?_ ?_
      | refine LeO.bind ?_ (fun _ => ?_)
set_option maxHeartbeats 8000000 in
set_option maxRecDepth 100000 in
theorem corebankref01_times.calls (k : Nat) (a0_0 : Int) (a0_1 : Int) (a1 : Int) (r1 : Int) (r2 : Int) (r3 : Bool) (w : World) (h : corebankref01_times.f k a0_0 a0_1 a1 = some (r1, r2, r3)) :
    Calls Try.prog 67 #[.agg #[.int .u64 a0_0, .int .u64 a0_1], .int .u64 a1] w fun e w' => e = .returned (.tuple #[.agg #[.int .u64 r1, .int .u64 r2], .bool r3]) ∧ Below w.heap.size w w' := by
  have hu89 := Try.underlying89
  have HB := Aside0.mk (Below.refl w.heap.size w)
  have H : (corebankref01_times.l0 k a1 true 0 a0_0 a0_1 0 0) = some (r1, r2, r3) := h
  clear h
  have H' := Aside0.mk H
  clear H
  go_enter Try.func67, Try.ntmps67
  go_wp2_with (first | ((with_reducible refine gate_dst (N := 2) rfl ?_); refine box_event ?hg (N := 2) ?hd (cs := #[.int .u64 a0_0, .int .u64 a0_1]) (t := 89) ?hr ?_; (case hd => rfl); (case hg => rfl); (case hr => first | (go_simp; done) | (go_simp; rfl)); intro gb339 hg w3 hbox hb; have BK339 := Aside0.mk (hbox); have GW339 := ge HB hg; have GE339 := ge HB hg; replace HB := bs HB hb; clear hb hbox hg) | ((with_reducible refine gate_dst (N := 4) rfl ?_); refine box_event ?hg (N := 4) ?hd (cs := #[.int .u64 0, .int .u64 0]) (t := 89) ?hr ?_; (case hd => rfl); (case hg => rfl); (case hr => first | (go_simp; done) | (go_simp; rfl)); intro gb340 hg w4 hbox hb; have BK340 := Aside0.mk (hbox); have GW340 := ge HB hg; have GE340 := ge HB hg; have NB339_340 := nl BK339 hg; have NB340_339 := ng NB339_340; replace BK339 := bb BK339 hb; replace HB := bs HB hb; clear hb hbox hg) | ((with_reducible refine gate_dst (N := 6) rfl ?_); refine box_event ?hg (N := 6) ?hd (cs := #[.int .u64 0, .int .u64 0]) (t := 89) ?hr ?_; (case hd => rfl); (case hg => rfl); (case hr => first | (go_simp; done) | (go_simp; rfl)); intro gb341 hg w5 hbox hb; have BK341 := Aside0.mk (hbox); have GW341 := ge HB hg; have GE341 := ge HB hg; have NB339_341 := nl BK339 hg; have NB341_339 := ng NB339_341; have NB340_341 := nl BK340 hg; have NB341_340 := ng NB340_341; replace BK339 := bb BK339 hb; replace BK340 := bb BK340 hb; replace HB := bs HB hb; clear hb hbox hg; have hnb6 := NB341_339.out; have hnc6 := NB339_341.out; have hnb7 := NB341_340.out; have hnc7 := NB340_341.out; obtain ⟨hcz8_0, hcz8_1, hfz8_0, hfz8_1⟩ := cz2 BK341))
  go_loopg [1, 7, 8] k (fun kq v1 v7 v8 w' => ∃ (x1_1 : Int) (x7_1 : Bool) (x8_1 : Int) (x342000_1 : Int) (x342001_1 : Int), v1 = .int .u64 x1_1 ∧ v7 = .bool x7_1 ∧ v8 = .int .i64 x8_1 ∧ Aside0 (corebankref01_times.l0 kq x1_1 x7_1 x8_1 a0_0 a0_1 x342000_1 x342001_1 = some (r1, r2, r3)) ∧ Aside0 (kq ≤ k) ∧ Aside0 (w'.heap[gb339]? = some (.cells #[.int .u64 a0_0, .int .u64 a0_1] 89 (0, 0))) ∧ Aside0 (w'.heap[gb340]? = some (.cells #[.int .u64 0, .int .u64 0] 89 (0, 0))) ∧ Aside0 (w'.heap[gb341]? = some (.cells #[.int .u64 x342000_1, .int .u64 x342001_1] 89 (0, 0))) ∧ Aside0 (Below w.heap.size w w'))
  case atStart => exact ⟨(a1), (true), (0), (0), (0), (by first | rfl | (simp; done) | (simp [*]; done)), (by first | rfl | (simp; done) | (simp [*]; done)), (by first | rfl | (simp; done) | (simp [*]; done)), H', ⟨Nat.le_refl _⟩, ⟨bq BK339⟩, ⟨bq BK340⟩, ⟨bp BK341⟩, ⟨hq HB⟩⟩
  case round =>
    clear H'
    try clear p2
    try clear c6
    try clear c7
    try clear hcz8_0
    try clear hcz8_1
    try clear hfz8_0
    try clear hfz8_1
    obtain ⟨x1_1, x7_1, x8_1, x342000_1, x342001_1, rfl, rfl, rfl, HA, HK1, BK339, BK340, BK341, HB⟩ := hrel
    cases gk with
    | zero => exact absurd HA.out (by simp [corebankref01_times.l0])
    | succ k1 =>
      have H := HA.out
      clear HA
      simp only [corebankref01_times.l0] at H
      by_cases c9 : x8_1 < 64
      · rw [if_pos c9] at H
        have c9b0 : decide (x8_1 < 64) = true := decide_eq_true c9
        clear c9
        replace H := Option.bind_eq_some_iff.mp H
        obtain ⟨⟨t342, t343, t344⟩, A100, H⟩ := H
        replace H : (if x7_1 = true then (if (Go.bits .and .u64 x1_1 9223372036854775808) = 0 then (corebankref01_times.l0 k1 (IntKind.u64.wrap (x1_1 * 2)) t344 (wrap64 (x8_1 + 1)) a0_0 a0_1 t342 t343) else ((corebankref01_plus.f t342 t343 a0_0 a0_1).bind fun bt346 => (if t344 = true then (corebankref01_times.l0 k1 (IntKind.u64.wrap (x1_1 * 2)) bt346.2.2 (wrap64 (x8_1 + 1)) a0_0 a0_1 bt346.1 bt346.2.1) else (corebankref01_times.l0 k1 (IntKind.u64.wrap (x1_1 * 2)) false (wrap64 (x8_1 + 1)) a0_0 a0_1 bt346.1 bt346.2.1)))) else (if (Go.bits .and .u64 x1_1 9223372036854775808) = 0 then (corebankref01_times.l0 k1 (IntKind.u64.wrap (x1_1 * 2)) false (wrap64 (x8_1 + 1)) a0_0 a0_1 t342 t343) else ((corebankref01_plus.f t342 t343 a0_0 a0_1).bind fun bt349 => (corebankref01_times.l0 k1 (IntKind.u64.wrap (x1_1 * 2)) false (wrap64 (x8_1 + 1)) a0_0 a0_1 bt349.1 bt349.2.1)))) = some (r1, r2, r3) := H
        have A10 := Aside0.mk A100
        clear A100
        by_cases c11 : x7_1 = true
        · subst c11
          have H1 : (if (Go.bits .and .u64 x1_1 9223372036854775808) = 0 then (corebankref01_times.l0 k1 (IntKind.u64.wrap (x1_1 * 2)) t344 (wrap64 (x8_1 + 1)) a0_0 a0_1 t342 t343) else ((corebankref01_plus.f t342 t343 a0_0 a0_1).bind fun bt346 => (if t344 = true then (corebankref01_times.l0 k1 (IntKind.u64.wrap (x1_1 * 2)) bt346.2.2 (wrap64 (x8_1 + 1)) a0_0 a0_1 bt346.1 bt346.2.1) else (corebankref01_times.l0 k1 (IntKind.u64.wrap (x1_1 * 2)) false (wrap64 (x8_1 + 1)) a0_0 a0_1 bt346.1 bt346.2.1)))) = some (r1, r2, r3) := by rw [if_pos rfl] at H; exact H
          clear H
          have H := H1
          clear H1
          by_cases c12 : (Go.bits .and .u64 x1_1 9223372036854775808) = 0
          · rw [if_pos c12] at H
            have c12b0 : ((Go.bits .and .u64 x1_1 9223372036854775808) == 0) = true := beq_iff_eq.mpr c12
            have c12b1 : ((Go.bits .and .u64 x1_1 9223372036854775808) != 0) = false := bne_eq_false_iff_eq.mpr c12
            clear c12
            have H' := Aside0.mk H
            clear H
            have hnb13 := NB341_339.out
            have hnc13 := NB339_341.out
            have hnb14 := NB341_340.out
            have hnc14 := NB340_341.out
            obtain ⟨hcz15_0, hcz15_1, hfz15_0, hfz15_1⟩ := cz2 BK341
            go_wp2_with (first | ((with_reducible refine gate_callee (f := 70) rfl ?_); refine goesL_ (some 19) rfl rfl Try.func70 (by kernel_rfl) rfl #[.agg #[.int .u64 x342000_1, .int .u64 x342001_1], .agg #[.int .u64 x342000_1, .int .u64 x342001_1]] rfl zm ?_; (with_reducible refine (corebankref01_plus.calls x342000_1 x342001_1 x342000_1 x342001_1 t342 t343 t344 _ A10.out).mono ?_); rintro e w16 ⟨rfl, hb⟩; refine ⟨_, rfl, ?_⟩; replace BK339 := bb BK339 hb; replace BK340 := bb BK340 hb; replace BK341 := bb BK341 hb; replace HB := bs HB hb; (try clear hb); (try clear hb2); (try clear hk); (try clear hi)) | ((with_reducible refine gate_dst (N := 9) rfl ?_); refine box_event ?hg (N := 9) ?hd (cs := #[.int .u64 0, .int .u64 0]) (t := 89) ?hr ?_; (case hd => rfl); (case hg => rfl); (case hr => first | (go_simp; done) | (go_simp; rfl)); intro gb345 hg w17 hbox hb; have BK345 := Aside0.mk (hbox); have GW345 := ge HB hg; have GE345 := ge HB hg; have NB339_345 := nl BK339 hg; have NB345_339 := ng NB339_345; have NB340_345 := nl BK340 hg; have NB345_340 := ng NB340_345; have NB341_345 := nl BK341 hg; have NB345_341 := ng NB341_345; replace BK339 := bb BK339 hb; replace BK340 := bb BK340 hb; replace BK341 := bb BK341 hb; replace HB := bs HB hb; clear hb hbox hg; have hnb18 := NB345_339.out; have hnc18 := NB339_345.out; have hnb19 := NB345_340.out; have hnc19 := NB340_345.out; have hnb20 := NB345_341.out; have hnc20 := NB341_345.out; obtain ⟨hcz21_0, hcz21_1, hfz21_0, hfz21_1⟩ := cz2 BK345; obtain ⟨hcz22_0, hcz22_1, hfz22_0, hfz22_1⟩ := cz2 BK341))
            go_roundg k1
            case measure => have := HK1.out; omega
            case rel => exact ⟨(IntKind.u64.wrap (x1_1 * 2)), (t344), (wrap64 (x8_1 + 1)), (t342), (t343), (by first | rfl | (simp; done) | (simp [*]; done)), (by first | rfl | (simp; done) | (simp [*]; done)), (by first | rfl | (simp; done) | (simp [*]; done)), H', ⟨by have := HK1.out; omega⟩, ⟨bq BK339⟩, ⟨bq BK340⟩, ⟨bp BK341⟩, ⟨hq HB⟩⟩
          · rw [if_neg c12] at H
            have c12b0 : ((Go.bits .and .u64 x1_1 9223372036854775808) == 0) = false := beq_eq_false_iff_ne.mpr c12
            have c12b1 : ((Go.bits .and .u64 x1_1 9223372036854775808) != 0) = true := bne_iff_ne.mpr c12
            replace H := Option.bind_eq_some_iff.mp H
            obtain ⟨⟨t346, t347, t348⟩, A230, H⟩ := H
            replace H : (if t344 = true then (corebankref01_times.l0 k1 (IntKind.u64.wrap (x1_1 * 2)) t348 (wrap64 (x8_1 + 1)) a0_0 a0_1 t346 t347) else (corebankref01_times.l0 k1 (IntKind.u64.wrap (x1_1 * 2)) false (wrap64 (x8_1 + 1)) a0_0 a0_1 t346 t347)) = some (r1, r2, r3) := H
            have A23 := Aside0.mk A230
            clear A230
            by_cases c24 : t344 = true
            · subst c24
              have H1 : (corebankref01_times.l0 k1 (IntKind.u64.wrap (x1_1 * 2)) t348 (wrap64 (x8_1 + 1)) a0_0 a0_1 t346 t347) = some (r1, r2, r3) := by rw [if_pos rfl] at H; exact H
              clear H
              have H := H1
              clear H1
              have H' := Aside0.mk H
              clear H
              have hnb25 := NB341_339.out
              have hnc25 := NB339_341.out
              have hnb26 := NB341_340.out
              have hnc26 := NB340_341.out
              obtain ⟨hcz27_0, hcz27_1, hfz27_0, hfz27_1⟩ := cz2 BK341
              go_wp2_with (first | ((with_reducible refine gate_callee (f := 70) rfl ?_); refine goesL_ (some 19) rfl rfl Try.func70 (by kernel_rfl) rfl #[.agg #[.int .u64 x342000_1, .int .u64 x342001_1], .agg #[.int .u64 x342000_1, .int .u64 x342001_1]] rfl zm ?_; (with_reducible refine (corebankref01_plus.calls x342000_1 x342001_1 x342000_1 x342001_1 t342 t343 true _ A10.out).mono ?_); rintro e w28 ⟨rfl, hb⟩; refine ⟨_, rfl, ?_⟩; replace BK339 := bb BK339 hb; replace BK340 := bb BK340 hb; replace BK341 := bb BK341 hb; replace HB := bs HB hb; (try clear hb); (try clear hb2); (try clear hk); (try clear hi)) | ((with_reducible refine gate_dst (N := 9) rfl ?_); refine box_event ?hg (N := 9) ?hd (cs := #[.int .u64 0, .int .u64 0]) (t := 89) ?hr ?_; (case hd => rfl); (case hg => rfl); (case hr => first | (go_simp; done) | (go_simp; rfl)); intro gb345 hg w29 hbox hb; have BK345 := Aside0.mk (hbox); have GW345 := ge HB hg; have GE345 := ge HB hg; have NB339_345 := nl BK339 hg; have NB345_339 := ng NB339_345; have NB340_345 := nl BK340 hg; have NB345_340 := ng NB340_345; have NB341_345 := nl BK341 hg; have NB345_341 := ng NB341_345; replace BK339 := bb BK339 hb; replace BK340 := bb BK340 hb; replace BK341 := bb BK341 hb; replace HB := bs HB hb; clear hb hbox hg; have hnb30 := NB345_339.out; have hnc30 := NB339_345.out; have hnb31 := NB345_340.out; have hnc31 := NB340_345.out; have hnb32 := NB345_341.out; have hnc32 := NB341_345.out; obtain ⟨hcz33_0, hcz33_1, hfz33_0, hfz33_1⟩ := cz2 BK345; obtain ⟨hcz34_0, hcz34_1, hfz34_0, hfz34_1⟩ := cz2 BK341; have hnb35 := NB339_340.out; have hnc35 := NB340_339.out; obtain ⟨hcz36_0, hcz36_1, hfz36_0, hfz36_1⟩ := cz2 BK339) | ((with_reducible refine gate_callee (f := 70) rfl ?_); refine goesL_ (some 33) rfl rfl Try.func70 (by kernel_rfl) rfl #[.agg #[.int .u64 t342, .int .u64 t343], .agg #[.int .u64 a0_0, .int .u64 a0_1]] rfl zm ?_; (with_reducible refine (corebankref01_plus.calls t342 t343 a0_0 a0_1 t346 t347 t348 _ A23.out).mono ?_); rintro e w37 ⟨rfl, hb⟩; refine ⟨_, rfl, ?_⟩; replace BK339 := bb BK339 hb; replace BK340 := bb BK340 hb; replace BK341 := bpb BK341 hb #[.int .u64 t342, .int .u64 t343]; replace BK345 := bpb BK345 hb #[.int .u64 t342, .int .u64 t343]; replace HB := bs HB hb; (try clear hb); (try clear hb2); (try clear hk); (try clear hi); obtain ⟨hcz38_0, hcz38_1, hfz38_0, hfz38_1⟩ := cz2 BK345; obtain ⟨hcz39_0, hcz39_1, hfz39_0, hfz39_1⟩ := cz2 BK341))
              go_roundg k1
              case measure => have := HK1.out; omega
              case rel => exact ⟨(IntKind.u64.wrap (x1_1 * 2)), (t348), (wrap64 (x8_1 + 1)), (t346), (t347), (by first | rfl | (simp; done) | (simp [*]; done)), (by first | rfl | (simp; done) | (simp [*]; done)), (by first | rfl | (simp; done) | (simp [*]; done)), H', ⟨by have := HK1.out; omega⟩, ⟨bq BK339⟩, ⟨bq BK340⟩, ⟨bp BK341⟩, ⟨hq HB⟩⟩
            · replace c24 := Bool.eq_false_iff.mpr c24
              subst c24
              have H1 : (corebankref01_times.l0 k1 (IntKind.u64.wrap (x1_1 * 2)) false (wrap64 (x8_1 + 1)) a0_0 a0_1 t346 t347) = some (r1, r2, r3) := by rw [if_neg (show ¬ (false = true) by decide)] at H; exact H
              clear H
              have H := H1
              clear H1
              have H' := Aside0.mk H
              clear H
              have hnb40 := NB341_339.out
              have hnc40 := NB339_341.out
              have hnb41 := NB341_340.out
              have hnc41 := NB340_341.out
              obtain ⟨hcz42_0, hcz42_1, hfz42_0, hfz42_1⟩ := cz2 BK341
              go_wp2_with (first | ((with_reducible refine gate_callee (f := 70) rfl ?_); refine goesL_ (some 19) rfl rfl Try.func70 (by kernel_rfl) rfl #[.agg #[.int .u64 x342000_1, .int .u64 x342001_1], .agg #[.int .u64 x342000_1, .int .u64 x342001_1]] rfl zm ?_; (with_reducible refine (corebankref01_plus.calls x342000_1 x342001_1 x342000_1 x342001_1 t342 t343 false _ A10.out).mono ?_); rintro e w43 ⟨rfl, hb⟩; refine ⟨_, rfl, ?_⟩; replace BK339 := bb BK339 hb; replace BK340 := bb BK340 hb; replace BK341 := bb BK341 hb; replace HB := bs HB hb; (try clear hb); (try clear hb2); (try clear hk); (try clear hi)) | ((with_reducible refine gate_dst (N := 9) rfl ?_); refine box_event ?hg (N := 9) ?hd (cs := #[.int .u64 0, .int .u64 0]) (t := 89) ?hr ?_; (case hd => rfl); (case hg => rfl); (case hr => first | (go_simp; done) | (go_simp; rfl)); intro gb345 hg w44 hbox hb; have BK345 := Aside0.mk (hbox); have GW345 := ge HB hg; have GE345 := ge HB hg; have NB339_345 := nl BK339 hg; have NB345_339 := ng NB339_345; have NB340_345 := nl BK340 hg; have NB345_340 := ng NB340_345; have NB341_345 := nl BK341 hg; have NB345_341 := ng NB341_345; replace BK339 := bb BK339 hb; replace BK340 := bb BK340 hb; replace BK341 := bb BK341 hb; replace HB := bs HB hb; clear hb hbox hg; have hnb45 := NB345_339.out; have hnc45 := NB339_345.out; have hnb46 := NB345_340.out; have hnc46 := NB340_345.out; have hnb47 := NB345_341.out; have hnc47 := NB341_345.out; obtain ⟨hcz48_0, hcz48_1, hfz48_0, hfz48_1⟩ := cz2 BK345; obtain ⟨hcz49_0, hcz49_1, hfz49_0, hfz49_1⟩ := cz2 BK341; have hnb50 := NB339_340.out; have hnc50 := NB340_339.out; obtain ⟨hcz51_0, hcz51_1, hfz51_0, hfz51_1⟩ := cz2 BK339) | ((with_reducible refine gate_callee (f := 70) rfl ?_); refine goesL_ (some 33) rfl rfl Try.func70 (by kernel_rfl) rfl #[.agg #[.int .u64 t342, .int .u64 t343], .agg #[.int .u64 a0_0, .int .u64 a0_1]] rfl zm ?_; (with_reducible refine (corebankref01_plus.calls t342 t343 a0_0 a0_1 t346 t347 t348 _ A23.out).mono ?_); rintro e w52 ⟨rfl, hb⟩; refine ⟨_, rfl, ?_⟩; replace BK339 := bb BK339 hb; replace BK340 := bb BK340 hb; replace BK341 := bpb BK341 hb #[.int .u64 t342, .int .u64 t343]; replace BK345 := bpb BK345 hb #[.int .u64 t342, .int .u64 t343]; replace HB := bs HB hb; (try clear hb); (try clear hb2); (try clear hk); (try clear hi); obtain ⟨hcz53_0, hcz53_1, hfz53_0, hfz53_1⟩ := cz2 BK345; obtain ⟨hcz54_0, hcz54_1, hfz54_0, hfz54_1⟩ := cz2 BK341))
              go_roundg k1
              case measure => have := HK1.out; omega
              case rel => exact ⟨(IntKind.u64.wrap (x1_1 * 2)), (false), (wrap64 (x8_1 + 1)), (t346), (t347), (by first | rfl | (simp; done) | (simp [*]; done)), (by first | rfl | (simp; done) | (simp [*]; done)), (by first | rfl | (simp; done) | (simp [*]; done)), H', ⟨by have := HK1.out; omega⟩, ⟨bq BK339⟩, ⟨bq BK340⟩, ⟨bp BK341⟩, ⟨hq HB⟩⟩
        · replace c11 := Bool.eq_false_iff.mpr c11
          subst c11
          have H1 : (if (Go.bits .and .u64 x1_1 9223372036854775808) = 0 then (corebankref01_times.l0 k1 (IntKind.u64.wrap (x1_1 * 2)) false (wrap64 (x8_1 + 1)) a0_0 a0_1 t342 t343) else ((corebankref01_plus.f t342 t343 a0_0 a0_1).bind fun bt349 => (corebankref01_times.l0 k1 (IntKind.u64.wrap (x1_1 * 2)) false (wrap64 (x8_1 + 1)) a0_0 a0_1 bt349.1 bt349.2.1))) = some (r1, r2, r3) := by rw [if_neg (show ¬ (false = true) by decide)] at H; exact H
          clear H
          have H := H1
          clear H1
          by_cases c55 : (Go.bits .and .u64 x1_1 9223372036854775808) = 0
          · rw [if_pos c55] at H
            have c55b0 : ((Go.bits .and .u64 x1_1 9223372036854775808) == 0) = true := beq_iff_eq.mpr c55
            have c55b1 : ((Go.bits .and .u64 x1_1 9223372036854775808) != 0) = false := bne_eq_false_iff_eq.mpr c55
            clear c55
            have H' := Aside0.mk H
            clear H
            have hnb56 := NB341_339.out
            have hnc56 := NB339_341.out
            have hnb57 := NB341_340.out
            have hnc57 := NB340_341.out
            obtain ⟨hcz58_0, hcz58_1, hfz58_0, hfz58_1⟩ := cz2 BK341
            go_wp2_with (first | ((with_reducible refine gate_callee (f := 70) rfl ?_); refine goesL_ (some 19) rfl rfl Try.func70 (by kernel_rfl) rfl #[.agg #[.int .u64 x342000_1, .int .u64 x342001_1], .agg #[.int .u64 x342000_1, .int .u64 x342001_1]] rfl zm ?_; (with_reducible refine (corebankref01_plus.calls x342000_1 x342001_1 x342000_1 x342001_1 t342 t343 t344 _ A10.out).mono ?_); rintro e w59 ⟨rfl, hb⟩; refine ⟨_, rfl, ?_⟩; replace BK339 := bb BK339 hb; replace BK340 := bb BK340 hb; replace BK341 := bb BK341 hb; replace HB := bs HB hb; (try clear hb); (try clear hb2); (try clear hk); (try clear hi)) | ((with_reducible refine gate_dst (N := 9) rfl ?_); refine box_event ?hg (N := 9) ?hd (cs := #[.int .u64 0, .int .u64 0]) (t := 89) ?hr ?_; (case hd => rfl); (case hg => rfl); (case hr => first | (go_simp; done) | (go_simp; rfl)); intro gb345 hg w60 hbox hb; have BK345 := Aside0.mk (hbox); have GW345 := ge HB hg; have GE345 := ge HB hg; have NB339_345 := nl BK339 hg; have NB345_339 := ng NB339_345; have NB340_345 := nl BK340 hg; have NB345_340 := ng NB340_345; have NB341_345 := nl BK341 hg; have NB345_341 := ng NB341_345; replace BK339 := bb BK339 hb; replace BK340 := bb BK340 hb; replace BK341 := bb BK341 hb; replace HB := bs HB hb; clear hb hbox hg; have hnb61 := NB345_339.out; have hnc61 := NB339_345.out; have hnb62 := NB345_340.out; have hnc62 := NB340_345.out; have hnb63 := NB345_341.out; have hnc63 := NB341_345.out; obtain ⟨hcz64_0, hcz64_1, hfz64_0, hfz64_1⟩ := cz2 BK345; obtain ⟨hcz65_0, hcz65_1, hfz65_0, hfz65_1⟩ := cz2 BK341))
            go_roundg k1
            case measure => have := HK1.out; omega
            case rel => exact ⟨(IntKind.u64.wrap (x1_1 * 2)), (false), (wrap64 (x8_1 + 1)), (t342), (t343), (by first | rfl | (simp; done) | (simp [*]; done)), (by first | rfl | (simp; done) | (simp [*]; done)), (by first | rfl | (simp; done) | (simp [*]; done)), H', ⟨by have := HK1.out; omega⟩, ⟨bq BK339⟩, ⟨bq BK340⟩, ⟨bp BK341⟩, ⟨hq HB⟩⟩
          · rw [if_neg c55] at H
            have c55b0 : ((Go.bits .and .u64 x1_1 9223372036854775808) == 0) = false := beq_eq_false_iff_ne.mpr c55
            have c55b1 : ((Go.bits .and .u64 x1_1 9223372036854775808) != 0) = true := bne_iff_ne.mpr c55
            replace H := Option.bind_eq_some_iff.mp H
            obtain ⟨⟨t349, t350, t351⟩, A660, H⟩ := H
            replace H : (corebankref01_times.l0 k1 (IntKind.u64.wrap (x1_1 * 2)) false (wrap64 (x8_1 + 1)) a0_0 a0_1 t349 t350) = some (r1, r2, r3) := H
            have A66 := Aside0.mk A660
            clear A660
            have H' := Aside0.mk H
            clear H
            have hnb67 := NB341_339.out
            have hnc67 := NB339_341.out
            have hnb68 := NB341_340.out
            have hnc68 := NB340_341.out
            obtain ⟨hcz69_0, hcz69_1, hfz69_0, hfz69_1⟩ := cz2 BK341
            go_wp2_with (first | ((with_reducible refine gate_callee (f := 70) rfl ?_); refine goesL_ (some 19) rfl rfl Try.func70 (by kernel_rfl) rfl #[.agg #[.int .u64 x342000_1, .int .u64 x342001_1], .agg #[.int .u64 x342000_1, .int .u64 x342001_1]] rfl zm ?_; (with_reducible refine (corebankref01_plus.calls x342000_1 x342001_1 x342000_1 x342001_1 t342 t343 t344 _ A10.out).mono ?_); rintro e w70 ⟨rfl, hb⟩; refine ⟨_, rfl, ?_⟩; replace BK339 := bb BK339 hb; replace BK340 := bb BK340 hb; replace BK341 := bb BK341 hb; replace HB := bs HB hb; (try clear hb); (try clear hb2); (try clear hk); (try clear hi)) | ((with_reducible refine gate_dst (N := 9) rfl ?_); refine box_event ?hg (N := 9) ?hd (cs := #[.int .u64 0, .int .u64 0]) (t := 89) ?hr ?_; (case hd => rfl); (case hg => rfl); (case hr => first | (go_simp; done) | (go_simp; rfl)); intro gb345 hg w71 hbox hb; have BK345 := Aside0.mk (hbox); have GW345 := ge HB hg; have GE345 := ge HB hg; have NB339_345 := nl BK339 hg; have NB345_339 := ng NB339_345; have NB340_345 := nl BK340 hg; have NB345_340 := ng NB340_345; have NB341_345 := nl BK341 hg; have NB345_341 := ng NB341_345; replace BK339 := bb BK339 hb; replace BK340 := bb BK340 hb; replace BK341 := bb BK341 hb; replace HB := bs HB hb; clear hb hbox hg; have hnb72 := NB345_339.out; have hnc72 := NB339_345.out; have hnb73 := NB345_340.out; have hnc73 := NB340_345.out; have hnb74 := NB345_341.out; have hnc74 := NB341_345.out; obtain ⟨hcz75_0, hcz75_1, hfz75_0, hfz75_1⟩ := cz2 BK345; obtain ⟨hcz76_0, hcz76_1, hfz76_0, hfz76_1⟩ := cz2 BK341; have hnb77 := NB339_340.out; have hnc77 := NB340_339.out; obtain ⟨hcz78_0, hcz78_1, hfz78_0, hfz78_1⟩ := cz2 BK339) | ((with_reducible refine gate_callee (f := 70) rfl ?_); refine goesL_ (some 33) rfl rfl Try.func70 (by kernel_rfl) rfl #[.agg #[.int .u64 t342, .int .u64 t343], .agg #[.int .u64 a0_0, .int .u64 a0_1]] rfl zm ?_; (with_reducible refine (corebankref01_plus.calls t342 t343 a0_0 a0_1 t349 t350 t351 _ A66.out).mono ?_); rintro e w79 ⟨rfl, hb⟩; refine ⟨_, rfl, ?_⟩; replace BK339 := bb BK339 hb; replace BK340 := bb BK340 hb; replace BK341 := bpb BK341 hb #[.int .u64 t342, .int .u64 t343]; replace BK345 := bpb BK345 hb #[.int .u64 t342, .int .u64 t343]; replace HB := bs HB hb; (try clear hb); (try clear hb2); (try clear hk); (try clear hi); obtain ⟨hcz80_0, hcz80_1, hfz80_0, hfz80_1⟩ := cz2 BK345; obtain ⟨hcz81_0, hcz81_1, hfz81_0, hfz81_1⟩ := cz2 BK341))
            go_roundg k1
            case measure => have := HK1.out; omega
            case rel => exact ⟨(IntKind.u64.wrap (x1_1 * 2)), (false), (wrap64 (x8_1 + 1)), (t349), (t350), (by first | rfl | (simp; done) | (simp [*]; done)), (by first | rfl | (simp; done) | (simp [*]; done)), (by first | rfl | (simp; done) | (simp [*]; done)), H', ⟨by have := HK1.out; omega⟩, ⟨bq BK339⟩, ⟨bq BK340⟩, ⟨bp BK341⟩, ⟨hq HB⟩⟩
      · rw [if_neg c9] at H
        have c9b0 : decide (x8_1 < 64) = false := decide_eq_false c9
        clear c9
        simp only [Option.some.injEq, Prod.mk.injEq] at H
        obtain ⟨rfl, rfl, rfl⟩ := H
        have hnb82 := NB341_339.out
        have hnc82 := NB339_341.out
        have hnb83 := NB341_340.out
        have hnc83 := NB340_341.out
        obtain ⟨hcz84_0, hcz84_1, hfz84_0, hfz84_1⟩ := cz2 BK341
        have hnb85 := NB340_339.out
        have hnc85 := NB339_340.out
        obtain ⟨hcz86_0, hcz86_1, hfz86_0, hfz86_1⟩ := cz2 BK340
        go_wp2
        refine bodyPost_ret (results_ct rfl _ _ gb340 89 #[.int .u64 x342000_1, .int .u64 x342001_1] (0, 0) _ rfl (bp BK340) Try.underlying89 rfl (by kernel_rfl)) rfl ?_
        exact ⟨by first | rfl | (simp [errW_none, errW_some] <;> rfl) | (simp [*, errW_none, errW_some] <;> rfl), hq HB⟩

/-! ### corebankref01_size: function 68 -/
def corebankref01_size.f (a0 : Int) : Option (Int) := if a0 < 0 then (some (IntKind.u64.wrap ((not64 (IntKind.u64.wrap (a0))) + 1))) else (some (IntKind.u64.wrap (a0)))
set_option maxHeartbeats 8000000 in
set_option maxRecDepth 100000 in
theorem corebankref01_size.calls (a0 : Int) (r : Int) (w : World) (h : corebankref01_size.f a0 = some r) :
    Calls Try.prog 68 #[.int .i64 a0] w fun e w' => e = .returned (.int .u64 r) ∧ Drawn0 w w' := by
  have H : (if a0 < 0 then (some (IntKind.u64.wrap ((not64 (IntKind.u64.wrap (a0))) + 1))) else (some (IntKind.u64.wrap (a0)))) = some r := h
  clear h
  by_cases c2 : a0 < 0
  · rw [if_pos c2] at H
    have c2b0 : decide (a0 < 0) = true := decide_eq_true c2
    clear c2
    obtain rfl := Option.some.inj H
    go_enter Try.func68, Try.ntmps68
    go_wp2
    go_ret
    exact ⟨by first | rfl | (simp; done) | (simp [*]; done), by repeat (first | exact Drawn0.refl _ | apply Drawn0.step)⟩
  · rw [if_neg c2] at H
    have c2b0 : decide (a0 < 0) = false := decide_eq_false c2
    clear c2
    obtain rfl := Option.some.inj H
    go_enter Try.func68, Try.ntmps68
    go_wp2
    go_ret
    exact ⟨by first | rfl | (simp; done) | (simp [*]; done), by repeat (first | exact Drawn0.refl _ | apply Drawn0.step)⟩

end Go.Proofs.Ytlmabdiodopidaa.P
end
section
set_option linter.unusedVariables false
set_option linter.unusedSimpArgs false
namespace Go.Proofs.Ytlmabdiodopidaa.G
set_option maxRecDepth 100000
open Go.RowKit Go.Proofs.YtlmabdiodopidaaW.PrintWords Go.Proofs.YtlmabdiodopidaaW.PrintLast Go.Proofs.YtlmabdiodopidaaW.PrintMore Go.Proofs.Ytlmabdiodopidaa.P
/-- sums from given sums on -/
def totP (add : Int → Int → Int → Int → Option (Int × Int × Int)) : List S66 → Int → Int → Int → Int → Option (Int × Int × Int × Int × Int)
  | [], a, b, c, d => some (a, b, c, d, 0)
  | x :: l, a, b, c, d => (add a b x.f3.f0 x.f3.f1).bind fun r => (add c d x.f4.f0 x.f4.f1).bind fun q => if r.2.2 = 0 ∧ q.2.2 = 0 then totP add l r.1 r.2.1 q.1 q.2.1 else some (0, 0, 0, 0, 6)
theorem drop_at {α : Type} (l : List α) (x : Nat) (h : x < l.length) : l.drop x = l[x] :: l.drop (x + 1) := List.drop_eq_getElem_cons h
theorem wadd_any {a b c d r0 r1 r2 : Int} (h : wide_Add.f a b c d = some (r0, r1, r2)) (w : World) : Calls Try.prog 45 #[.agg #[.int .i64 a, .int .u64 b], .agg #[.int .i64 c, .int .u64 d]] w fun e w' => e = .returned (.tuple #[.agg #[.int .i64 r0, .int .u64 r1], .int .i64 r2]) ∧ Below w.heap.size w w' := wide_Add.calls a b c d r0 r1 r2 w h
set_option maxHeartbeats 4000000 in
theorem total_calls (A : Option Addr) (cc : Nat) (l : List S66) (r0 r1 r2 r3 er : Int) (w0 w : World) (hb0 : Below w0.heap.size w0 w) (hr : Kd.C k66 w0 A l.length l) (h : totP wide_Add.f l 0 0 0 0 = some (r0, r1, r2, r3, er)) :
    Calls Try.prog 36 #[.slice A l.length cc] w fun e w' => e = .returned (.tuple #[.agg #[.int .i64 r0, .int .u64 r1], .agg #[.int .i64 r2, .int .u64 r3], .int .i64 er]) ∧ Below w.heap.size w w' := by
  have hlm := Kd.C_max hr
  have HR := Aside0.mk hr
  have HB0 := Aside0.mk hb0
  have H := Aside0.mk h
  clear hr hb0 h
  go_enter Try.func36, Try.ntmps36
  go_wp2
  have b2 := (((Blk.new w zWd 35).alloc (.cells zWd.toArray 35)).alloc (.cells zWd.toArray 35)).alloc (.cells zWd.toArray 35)
  have b3 := ((Blk.newAt (w.alloc (.cells zWd.toArray 35)) (g := w.heap.size + 1) (by simp) zWd 35).alloc (.cells zWd.toArray 35)).alloc (.cells zWd.toArray 35)
  have b5 := (Blk.newAt ((w.alloc (.cells zWd.toArray 35)).alloc (.cells zWd.toArray 35)) (g := w.heap.size + 1 + 1) (by simp) zWd 35).alloc (.cells zWd.toArray 35)
  have b6 := Blk.newAt (((w.alloc (.cells zWd.toArray 35)).alloc (.cells zWd.toArray 35)).alloc (.cells zWd.toArray 35)) (g := w.heap.size + 1 + 1 + 1) (by simp) zWd 35
  have hB := ((((Below.refl w.heap.size w).alloc (Nat.le_refl _) (.cells zWd.toArray 35)).alloc (by simp) (.cells zWd.toArray 35)).alloc (by simp; omega) (.cells zWd.toArray 35)).alloc (by simp; omega) (.cells zWd.toArray 35)
  have hsz : w.heap.size + 4 ≤ ((((w.alloc (.cells zWd.toArray 35)).alloc (.cells zWd.toArray 35)).alloc (.cells zWd.toArray 35)).alloc (.cells zWd.toArray 35)).heap.size := by simp
  have B2 := Aside0.mk b2
  have B3 := Aside0.mk b3
  have B5 := Aside0.mk b5
  have B6 := Aside0.mk b6
  have HB := Aside0.mk hB
  have HSZ := Aside0.mk hsz
  clear b2 b3 b5 b6 hB hsz
  go_loopw [15] (fun i wr => ∃ (x : Nat) (a b c d : Int), x ≤ l.length ∧ i = .int .i64 x ∧ Aside0 (totP wide_Add.f (l.drop x) a b c d = some (r0, r1, r2, r3, er)) ∧ Aside0 (Blk wr w.heap.size zWd 35) ∧ Aside0 (Blk wr (w.heap.size + 1) zWd 35) ∧ Aside0 (Blk wr (w.heap.size + 1 + 1) [.int .i64 a, .int .u64 b] 35) ∧ Aside0 (Blk wr (w.heap.size + 1 + 1 + 1) [.int .i64 c, .int .u64 d] 35) ∧ Aside0 (Below w.heap.size w wr)) (fun i _ => l.length - (intOf i).toNat)
  case atStart => exact ⟨0, 0, 0, 0, 0, by omega, rfl, H, B2, B3, B5, B6, HB⟩
  case round =>
    clear B2 B3 B5 B6 HB HSZ
    obtain ⟨x, a, b, c, d, k1, rfl, HT, C2, C3, C5, C6, HW⟩ := hrel
    by_cases hlt : x < l.length
    · obtain ⟨ad, ce, hA, hcl, hcK, hcR⟩ := row_at HR.out Go.Proofs.Ytlmabdiodopidaa.P.z66 (x : Int) (by omega) (by omega)
      subst hA
      rw [show l.getD (x : Int).toNat Go.Proofs.Ytlmabdiodopidaa.P.z66 = l[x] by rw [Int.toNat_natCast, List.getD_eq_getElem?_getD, List.getElem?_eq_getElem hlt, Option.getD_some]] at hcK
      have hce := k66_open hcK
      have CL := Aside0.mk hcl
      have CK := Aside0.mk hcK
      have CR := Aside0.mk (hcR.below (bstep HB0.out HW.out))
      have ht := HT.out
      rw [drop_at l x hlt] at ht
      unfold totP at ht
      generalize l[x] = xx at *
      cases hr : wide_Add.f a b xx.f3.f0 xx.f3.f1 with
      | none => rw [hr] at ht; cases ht
      | some r =>
      rw [hr, Option.bind_some] at ht
      cases hq : wide_Add.f c d xx.f4.f0 xx.f4.f1 with
      | none => rw [hq] at ht; cases ht
      | some q =>
      rw [hq, Option.bind_some] at ht
      obtain ⟨p0, p1, p2⟩ := r
      obtain ⟨q0, q1, q2⟩ := q
      have HRR := Aside0.mk hr
      have HQ := Aside0.mk hq
      have HT2 := Aside0.mk ht
      clear hr hq ht HT hcl hcK hcR
      have y0 : wr.cell? ⟨w.heap.size + 1 + 1, 0, none⟩ = some (.int .i64 a) := C5.out.cell 0
      have y1 : wr.cell? ⟨w.heap.size + 1 + 1, 1, none⟩ = some (.int .u64 b) := C5.out.cell 1
      have e3 : ce[3]? = some (.int .i64 xx.f3.f0) := by rw [hce]; rfl
      have e4 : ce[4]? = some (.int .u64 xx.f3.f1) := by rw [hce]; rfl
      have e5 : ce[5]? = some (.int .i64 xx.f4.f0) := by rw [hce]; rfl
      have e6 : ce[6]? = some (.int .u64 xx.f4.f1) := by rw [hce]; rfl
      clear hce
      clear y0 y1
      go_upto_region 5 with (first
        | (refine ld_rng rfl 66 _ rfl (p := ad.add (x * 7)) rfl (cs := ce) CR.out Try.underlying66 rfl ?_ ?_; (rw [CL.out]; kernel_rfl))
        | (refine st_new rfl 66 _ _ rfl rfl (cs := acL 0 0 0 0 0 0 0) (vs := ce) rfl rfl CL.out ?_ (k66.K_one CK.out) ?_; (rw [CL.out]; kernel_rfl)))
      have D2 := Aside0.mk (C2.out.alloc (.cells ce.toArray 66))
      have D3 := Aside0.mk (C3.out.alloc (.cells ce.toArray 66))
      have D5 := Aside0.mk (C5.out.alloc (.cells ce.toArray 66))
      have D6 := Aside0.mk (C6.out.alloc (.cells ce.toArray 66))
      have DE := Aside0.mk (Blk.new wr ce 66)
      have DW := Aside0.mk (HW.out.alloc HW.out.size (.cells ce.toArray 66))
      have LW := Aside0.mk C6.out.lt
      have y3 := (DE.out.cell 3).trans e3
      have y4 := (DE.out.cell 4).trans e4
      have E5 := Aside0.mk e5
      have E6 := Aside0.mk e6
      clear C2 C3 C5 C6 HW CR e3 e4 e5 e6
      generalize wr.alloc (.cells ce.toArray 66) = W1 at *
      generalize wr.heap.size = Be at *
      have y0 : W1.cell? ⟨w.heap.size + 1 + 1, 0, none⟩ = some (.int .i64 a) := D5.out.cell 0
      have y1 : W1.cell? ⟨w.heap.size + 1 + 1, 1, none⟩ = some (.int .u64 b) := D5.out.cell 1
      go_upto_region 6 with (first
        | (go_at_call 45; refine (wadd_any HRR.out _).mono ?_; rintro e w2 ⟨rfl, hb2⟩; have HB2 := Aside0.mk (hb2.trans ((Below.refl _ w2).alloc hb2.size (.cells [.int .i64 p0, .int .u64 p1].toArray 35))); have G9 := Aside0.mk (Blk.new w2 [.int .i64 p0, .int .u64 p1] 35); have ZB2 := Aside0.mk hb2.size; clear hb2))
      clear y0 y1 y3 y4
      have F2 := Aside0.mk (D2.out.below HB2.out)
      have F3 := Aside0.mk (D3.out.below HB2.out)
      have F5 := Aside0.mk (D5.out.below HB2.out)
      have F6 := Aside0.mk (D6.out.below HB2.out)
      have FE := Aside0.mk (DE.out.below HB2.out)
      have FW := Aside0.mk (bstep DW.out HB2.out)
      have LW2 := Aside0.mk (show w.heap.size + 1 + 1 + 1 < w2.heap.size from Nat.lt_of_lt_of_le D6.out.lt ZB2.out)
      clear D2 D3 D5 D6 DE DW HB2
      generalize World.alloc w2 _ = W2 at *
      generalize w2.heap.size = B9 at *
      have y0 : W2.cell? ⟨w.heap.size + 1 + 1 + 1, 0, none⟩ = some (.int .i64 c) := F6.out.cell 0
      have y1 : W2.cell? ⟨w.heap.size + 1 + 1 + 1, 1, none⟩ = some (.int .u64 d) := F6.out.cell 1
      have y5 := (FE.out.cell 5).trans E5.out
      have y6 := (FE.out.cell 6).trans E6.out
      go_upto_region 7 with (first
        | (go_at_call 45; refine (wadd_any HQ.out _).mono ?_; rintro e w3 ⟨rfl, hb3⟩; have HB3 := Aside0.mk (hb3.trans ((Below.refl _ w3).alloc hb3.size (.cells [.int .i64 q0, .int .u64 q1].toArray 35))); have G11 := Aside0.mk (Blk.new w3 [.int .i64 q0, .int .u64 q1] 35); have ZB3 := Aside0.mk hb3.size; clear hb3))
      clear y0 y1 y5 y6
      have I2 := Aside0.mk (F2.out.below HB3.out)
      have I3 := Aside0.mk (F3.out.below HB3.out)
      have I5 := Aside0.mk (F5.out.below HB3.out)
      have I6 := Aside0.mk (F6.out.below HB3.out)
      have I9 := Aside0.mk (G9.out.below HB3.out)
      have IW := Aside0.mk (bstep FW.out HB3.out)
      have LW3 := Aside0.mk (show B9 < w3.heap.size from Nat.lt_of_lt_of_le G9.out.lt ZB3.out)
      clear F2 F3 F5 F6 FE FW G9 HB3
      generalize World.alloc w3 _ = W3 at *
      generalize w3.heap.size = B11 at *
      have hab := LW2.out
      have hbc := LW3.out
      by_cases h0 : p2 = 0 ∧ q2 = 0
      · obtain ⟨rfl, rfl⟩ := h0
        have ht := HT2.out
        rw [if_pos ⟨rfl, rfl⟩] at ht
        have HT3 := Aside0.mk ht
        clear ht HT2
        go_upto_region 9 with (fail)
        have z90 : W3.cell? ⟨B9, 0, none⟩ = some (.int .i64 p0) := I9.out.cell 0
        have z91 : W3.cell? ⟨B9, 1, none⟩ = some (.int .u64 p1) := I9.out.cell 1
        have z110 : W3.cell? ⟨B11, 0, none⟩ = some (.int .i64 q0) := G11.out.cell 0
        have z111 : W3.cell? ⟨B11, 1, none⟩ = some (.int .u64 q1) := G11.out.cell 1
        have z50 : W3.cell? ⟨w.heap.size + 1 + 1, 0, none⟩ = some (.int .i64 a) := I5.out.cell 0
        have z51 : W3.cell? ⟨w.heap.size + 1 + 1, 1, none⟩ = some (.int .u64 b) := I5.out.cell 1
        have z60 : W3.cell? ⟨w.heap.size + 1 + 1 + 1, 0, none⟩ = some (.int .i64 c) := I6.out.cell 0
        have z61 : W3.cell? ⟨w.heap.size + 1 + 1 + 1, 1, none⟩ = some (.int .u64 d) := I6.out.cell 1
        have s50 := I5.out.frozen 0
        have s51 := I5.out.frozen 1
        have s60 := I6.out.frozen 0
        have s61 := I6.out.frozen 1
        have n1 : w.heap.size + 1 + 1 ≠ B9 := by omega
        have n2 : w.heap.size + 1 + 1 ≠ B11 := by omega
        have n3 : w.heap.size + 1 + 1 + 1 ≠ B9 := by omega
        have n4 : w.heap.size + 1 + 1 + 1 ≠ B11 := by omega
        have P2 := Aside0.mk (put2 I5.out I6.out (by omega) (.int .i64 p0) (.int .u64 p1) (.int .i64 q0) (.int .u64 q1)).drew
        go_region
        go_wp2
        go_roundw
        case rel => exact ⟨x + 1, p0, p1, q0, q1, by omega, by go_num, HT3, ⟨P2.out.other _ _ _ (by omega) (by omega) I2.out⟩, ⟨P2.out.other _ _ _ (by omega) (by omega) I3.out⟩, ⟨P2.out.five⟩, ⟨P2.out.six⟩, ⟨P2.out.below _ _ (by omega) (by omega) IW.out⟩⟩
        case measure => simp [intOf]; omega
      · have ht := HT2.out
        rw [if_neg h0] at ht
        have he := Option.some.inj ht
        simp only [Prod.mk.injEq] at he
        obtain ⟨rfl, rfl, rfl, rfl, rfl⟩ := he
        clear ht HT2
        have c1 : (p2 != 0) = true ∨ ((p2 != 0) = false ∧ (q2 != 0) = true) := by
          by_cases h1 : p2 = 0
          · exact .inr ⟨by simp [h1], by simp; exact fun h2 => h0 ⟨h1, h2⟩⟩
          · exact .inl (by simp [h1])
        clear h0
        rcases c1 with c1 | ⟨c1, c2⟩
        all_goals
          go_wp2_with (first
            | (refine st_blk rfl 35 _ _ rfl rfl (g := w.heap.size) (vs := zWd) rfl rfl I2.out rfl ?_ (by simp [Value.oneCell']) ?_; kernel_rfl; intro J2)
            | (refine st_blk rfl 35 _ _ rfl rfl (g := w.heap.size + 1) (vs := zWd) rfl rfl (Blk.sets w.heap.size (by omega) _ _ I3.out) rfl ?_ (by simp [Value.oneCell']) ?_; kernel_rfl; intro J3))
          exact bodyPost_ret (ret_cell2_tmp Try.results36 _ _ rfl rfl rfl (Blk.sets (w.heap.size + 1) (by omega) _ _ J2) J3 Try.underlying35 rfl (by kernel_rfl) Try.underlying35 rfl (by kernel_rfl)) rfl ⟨rfl, Below.setCells _ (by omega) _ _ (Below.setCells _ (by omega) _ _ IW.out)⟩
    · have ht := HT.out
      rw [List.drop_eq_nil_of_le (by omega)] at ht
      unfold totP at ht
      have he := Option.some.inj ht
      simp only [Prod.mk.injEq] at he
      obtain ⟨rfl, rfl, rfl, rfl, rfl⟩ := he
      clear ht HT
      have z50 : wr.cell? ⟨w.heap.size + 1 + 1, 0, none⟩ = some (.int .i64 a) := C5.out.cell 0
      have z51 : wr.cell? ⟨w.heap.size + 1 + 1, 1, none⟩ = some (.int .u64 b) := C5.out.cell 1
      have z60 : wr.cell? ⟨w.heap.size + 1 + 1 + 1, 0, none⟩ = some (.int .i64 c) := C6.out.cell 0
      have z61 : wr.cell? ⟨w.heap.size + 1 + 1 + 1, 1, none⟩ = some (.int .u64 d) := C6.out.cell 1
      have z20 : wr.cell? ⟨w.heap.size, 0, none⟩ = some (.int .i64 0) := C2.out.cell 0
      have z21 : wr.cell? ⟨w.heap.size, 1, none⟩ = some (.int .u64 0) := C2.out.cell 1
      have z30 : wr.cell? ⟨w.heap.size + 1, 0, none⟩ = some (.int .i64 0) := C3.out.cell 0
      have z31 : wr.cell? ⟨w.heap.size + 1, 1, none⟩ = some (.int .u64 0) := C3.out.cell 1
      have s20 := C2.out.frozen 0
      have s21 := C2.out.frozen 1
      have s30 := C3.out.frozen 0
      have s31 := C3.out.frozen 1
      have P2 := Aside0.mk (put2 C2.out C3.out (by omega) (.int .i64 a) (.int .u64 b) (.int .i64 c) (.int .u64 d)).drew
      go_upto_region 11 with (fail)
      go_region
      go_wp2
      exact bodyPost_ret (ret_cell2_tmp Try.results36 _ _ rfl rfl rfl P2.out.five P2.out.six Try.underlying35 rfl (by kernel_rfl) Try.underlying35 rfl (by kernel_rfl)) rfl ⟨rfl, P2.out.below _ _ (by omega) (by omega) HW.out⟩
end Go.Proofs.Ytlmabdiodopidaa.G
end
section
set_option linter.unusedVariables false
set_option linter.unusedSimpArgs false
namespace Go.Proofs.Ytlmabdiodopidaa.G
set_option maxRecDepth 100000
open Go.RowKit Go.Proofs.YtlmabdiodopidaaW.PrintWords Go.Proofs.YtlmabdiodopidaaW.PrintLast Go.Proofs.YtlmabdiodopidaaW.PrintMore Go.Proofs.Ytlmabdiodopidaa.P
/-- a day of the calendar -/
def vd (day : Int) : Bool := decide (0 ≤ day) && decide (day ≤ 73048)
theorem vd_f (day : Int) : date_Valid.f day = some (vd day) := by
  unfold date_Valid.f vd
  by_cases h : 0 ≤ day
  · rw [if_pos h]; simp [h]
  · rw [if_neg h]; simp [h]
/-- what Day answers -/
def DayAns (b : Bk) (id day a0 a1 bal chi clo dhi dlo e : Int) : Prop :=
  ((findA id b.accs).2 = false ∧ a0 = 0 ∧ a1 = 0 ∧ bal = 0 ∧ chi = 0 ∧ clo = 0 ∧ dhi = 0 ∧ dlo = 0 ∧ e = 11) ∨
  ((findA id b.accs).2 = true ∧ vd day = false ∧ a0 = 0 ∧ a1 = 0 ∧ bal = 0 ∧ chi = 0 ∧ clo = 0 ∧ dhi = 0 ∧ dlo = 0 ∧ e = 1) ∨
  ((findA id b.accs).2 = true ∧ vd day = true ∧ a0 = id ∧ a1 = day ∧ DayIs b id day bal chi clo dhi dlo ∧ e = 0)
theorem daily_calls (cs : List Value) (id : Int) (w : World) :
    Calls Try.prog 53 #[.agg cs.toArray, .int .i64 id] w fun e w' => e = .returned (.func (.func 75) #[] #[.pointer (some ⟨w.heap.size + 1, 0, none⟩), .pointer (some ⟨w.heap.size, 0, none⟩)]) ∧ w' = (w.alloc (.cells cs.toArray 63)).alloc (.cells #[.int .i64 id] 3) := by
  go_enter Try.func53, Try.ntmps53
  go_wp2
  go_ret
  exact ⟨by simp, rfl⟩
abbrev zAc : List Value := acL 0 0 0 0 0 0 0
set_option maxHeartbeats 2000000 in
theorem day_calls (cs : List Value) (b : Bk) (id day a0 a1 bal chi clo dhi dlo er : Int) (w0 w : World) (hb0 : Below w0.heap.size w0 w) (hk : kBk.K w0 b cs) (hf : FewT b.prods) (hd : DayAns b id day a0 a1 bal chi clo dhi dlo er) :
    Calls Try.prog 31 #[.agg cs.toArray, .int .i64 id, .int .i64 day] w fun e w' => e = .returned (.tuple #[.agg (acL a0 a1 bal chi clo dhi dlo).toArray, .int .i64 er]) ∧ Below w.heap.size w w' := by
  obtain ⟨A1, c1, A2, c2, A3, c3, hl, -, -, -, -, -, -, -, -, -⟩ := bk_get hk
  have HB0 := Aside0.mk hb0
  have HK := Aside0.mk hk
  have HL := Aside0.mk hl
  have HF := Aside0.mk hf
  have HD := Aside0.mk hd
  clear hb0 hk hl hf hd
  have HW := Aside0.mk (((Below.refl w.heap.size w).alloc (Nat.le_refl _) (.cells cs.toArray 63)).alloc (by simp) (.cells zAc.toArray 66))
  have K0 := Aside0.mk ((Blk.new w cs 63).alloc (.cells zAc.toArray 66))
  have R0 := Aside0.mk (Blk.newAt (w.alloc (.cells cs.toArray 63)) (g := w.heap.size + 1) (by simp) zAc 66)
  go_enter Try.func31, Try.ntmps31
  go_upto_region 2 with (first
    | (refine ld_rng rfl 63 _ rfl (p := ⟨w.heap.size, 0, none⟩) rfl (cs := cs) K0.out.rng Try.underlying63 rfl ?_ ?_; (rw [HL.out]; kernel_rfl))
    | (go_at_call 51; refine (find_calls cs b id w0 _ (bstep HB0.out HW.out) HK.out).mono ?_; rintro e w1 ⟨ca, rfl, hca, hb1⟩; have CA := Aside0.mk hca; have CL := Aside0.mk (acc_get hca).1; have K1 := Aside0.mk ((K0.out.below hb1).alloc (.cells ca.toArray 101)); have R1 := Aside0.mk ((R0.out.below hb1).alloc (.cells ca.toArray 101)); have HW1 := Aside0.mk ((bstep HW.out hb1).alloc (bstep HW.out hb1).size (.cells ca.toArray 101)); clear hb1 hca)
    | (refine st_new rfl 101 _ _ rfl rfl (cs := zAccs) (vs := ca) rfl rfl CL.out ?_ (kAcc.K_one CA.out) ?_; (rw [CL.out]; kernel_rfl)))
  clear HW K0 R0
  generalize w1.alloc (.cells ca.toArray 101) = W1 at *
  generalize w1.heap.size = Ba at *
  have hd := HD.out
  unfold DayAns at hd
  generalize (findA id b.accs).2 = is at *
  clear HD CA
  rcases hd with ⟨rfl, rfl, rfl, rfl, rfl, rfl, rfl, rfl, rfl⟩ | ⟨rfl, hv, rfl, rfl, rfl, rfl, rfl, rfl, rfl, rfl⟩ | ⟨rfl, hv, rfl, rfl, hdi, rfl⟩
  · go_wp2_with (first
      | (refine st_blk rfl 66 _ _ rfl rfl (g := w.heap.size + 1) (vs := zAc) rfl rfl R1.out rfl ?_ (by simp [Value.oneCell']) ?_; kernel_rfl; intro B3))
    exact bodyPost_ret (ret_cell_tmp Try.results31 _ _ rfl rfl B3 Try.underlying66 rfl (by kernel_rfl)) rfl ⟨rfl, Below.setCells _ (by omega) _ _ HW1.out⟩
  · have HV := Aside0.mk hv
    clear hv
    go_wp2_with (first
      | (go_at_call 52; refine (date_Valid.calls day false _ (by rw [vd_f, HV.out])).mono ?_; rintro e w2 ⟨rfl, ⟨nd, rfl⟩⟩; have R2 := Aside0.mk (R1.out.drewN (n := nd)); have HW2 := Aside0.mk (pw_below_drewN HW1.out nd))
      | (refine st_blk rfl 66 _ _ rfl rfl (g := w.heap.size + 1) (vs := zAc) rfl rfl R2.out rfl ?_ (by simp [Value.oneCell']) ?_; kernel_rfl; intro B3))
    exact bodyPost_ret (ret_cell_tmp Try.results31 _ _ rfl rfl B3 Try.underlying66 rfl (by kernel_rfl)) rfl ⟨rfl, Below.setCells _ (by omega) _ _ HW2.out⟩
  · have HV := Aside0.mk hv
    have HDI := Aside0.mk hdi
    clear hv hdi
    go_wp2_with (first
      | (go_at_call 52; refine (date_Valid.calls _ true _ (by rw [vd_f, HV.out])).mono ?_; rintro e w2 ⟨rfl, ⟨nd, rfl⟩⟩; have R2 := Aside0.mk (R1.out.drewN (n := nd)); have K2 := Aside0.mk (K1.out.drewN (n := nd)); have HW2 := Aside0.mk (pw_below_drewN HW1.out nd))
      | (refine ld_rng rfl 63 _ rfl (p := ⟨w.heap.size, 0, none⟩) rfl (cs := cs) K2.out.rng Try.underlying63 rfl ?_ ?_; (rw [HL.out]; kernel_rfl))
      | (go_at_call 53; refine (daily_calls cs _ _).mono ?_; rintro e w3 ⟨rfl, rfl⟩; have I3 := Aside0.mk (Blk.newAt ((W1.drewN nd).alloc (.cells cs.toArray 63)) (g := W1.heap.size + 1) (by simp) [.int .i64 a0] 3); have K3 := Aside0.mk ((Blk.newAt (W1.drewN nd) (g := W1.heap.size) (by simp) cs 63).alloc (.cells #[.int .i64 a0] 3)); have HW3 := Aside0.mk ((HW2.out.alloc HW2.out.size (.cells cs.toArray 63)).alloc (HW2.out.alloc HW2.out.size (.cells cs.toArray 63)).size (.cells #[.int .i64 a0] 3)); have R3 := Aside0.mk ((R2.out.alloc (.cells cs.toArray 63)).alloc (.cells #[.int .i64 a0] 3)))
      | (go_at_call 75; refine (daily1_calls cs b a0 a1 bal chi clo dhi dlo (W1.heap.size + 1) W1.heap.size w0 _ (bstep HB0.out HW3.out) HK.out I3.out K3.out HF.out HDI.out).mono ?_; rintro e w4 ⟨rfl, hb4⟩; have R4 := Aside0.mk (R3.out.below hb4); have HW4 := Aside0.mk (bstep HW3.out hb4); clear hb4)
      | (refine st_blk rfl 66 _ _ rfl rfl (g := w.heap.size + 1) (vs := acL a0 a1 bal chi clo dhi dlo) rfl rfl R4.out rfl ?_ (by simp [Value.oneCell']) ?_; kernel_rfl; intro B3))
    exact bodyPost_ret (ret_cell_tmp Try.results31 _ _ rfl rfl B3 Try.underlying66 rfl (by kernel_rfl)) rfl ⟨rfl, Below.setCells _ (by omega) _ _ HW4.out⟩
end Go.Proofs.Ytlmabdiodopidaa.G
end
section
set_option linter.unusedVariables false
set_option linter.unusedSimpArgs false
namespace Go.Proofs.Ytlmabdiodopidaa.G
set_option maxRecDepth 100000
open Go.RowKit Go.Proofs.YtlmabdiodopidaaW.PrintWords Go.Proofs.YtlmabdiodopidaaW.PrintLast Go.Proofs.YtlmabdiodopidaaW.PrintMore Go.Proofs.Ytlmabdiodopidaa.P
/-- days from a day to a day, that are not too many -/
def serOk (f t : Int) : Bool := vd f && (vd t && (decide (f ≤ t) && decide (t - f < 4000)))
/-- the accrual of a day -/
def IsAcc (b : Bk) (id day : Int) (x : S66) : Prop := x.f0 = id ∧ x.f1 = day ∧ DayIs b id day x.f2 x.f3.f0 x.f3.f1 x.f4.f0 x.f4.f1
/-- the accruals of the first days from f on -/
def AccTo (b : Bk) (id f : Int) (l : List S66) : Prop := ∀ i (h : i < l.length), IsAcc b id (f + i) l[i]
/-- what Series answers -/
def SerAns (b : Bk) (id f t : Int) (l : List S66) (e : Int) : Prop :=
  ((findA id b.accs).2 = false ∧ l = [] ∧ e = 11) ∨ ((findA id b.accs).2 = true ∧ serOk f t = false ∧ l = [] ∧ e = 1) ∨
  ((findA id b.accs).2 = true ∧ serOk f t = true ∧ (l.length : Int) = t - f + 1 ∧ AccTo b id f l ∧ e = 0)
theorem vd_bd {d : Int} (h : vd d = true) : 0 ≤ d ∧ d ≤ 73048 := by
  unfold vd at h
  simpa using h
theorem serOk_all {f t : Int} (h : serOk f t = true) : vd f = true ∧ vd t = true ∧ f ≤ t ∧ t - f < 4000 := by
  unfold serOk at h
  simpa using h
theorem valid_any (day : Int) (w : World) : Calls Try.prog 52 #[.int .i64 day] w fun e w' => e = .returned (.bool (vd day)) ∧ Drawn0 w w' := date_Valid.calls day (vd day) w (vd_f day)
set_option maxHeartbeats 2000000 in
theorem series_calls (cs : List Value) (b : Bk) (id f t : Int) (l : List S66) (er : Int) (w0 w : World) (hb0 : Below w0.heap.size w0 w) (hk : kBk.K w0 b cs) (hf : FewT b.prods) (hd : SerAns b id f t l er) :
    Calls Try.prog 33 #[.agg cs.toArray, .int .i64 id, .int .i64 f, .int .i64 t] w fun e w' => ∃ v, e = .returned (.tuple #[v, .int .i64 er]) ∧ Kd.R k66 66 w' w.heap.size (fun _ => True) v l ∧ Below w.heap.size w w' := by
  obtain ⟨A1, c1, A2, c2, A3, c3, hl, -, -, -, -, -, -, -, -, -⟩ := bk_get hk
  have HB0 := Aside0.mk hb0
  have HK := Aside0.mk hk
  have HL := Aside0.mk hl
  have HF := Aside0.mk hf
  have HD := Aside0.mk hd
  clear hb0 hk hl hf hd
  have HW := Aside0.mk ((Below.refl w.heap.size w).alloc (Nat.le_refl _) (.cells cs.toArray 63))
  have K0 := Aside0.mk (Blk.new w cs 63)
  go_enter Try.func33, Try.ntmps33
  go_upto_region 2 with (first
    | (refine ld_rng rfl 63 _ rfl (p := ⟨w.heap.size, 0, none⟩) rfl (cs := cs) K0.out.rng Try.underlying63 rfl ?_ ?_; (rw [HL.out]; kernel_rfl))
    | (go_at_call 51; refine (find_calls cs b id w0 _ (bstep HB0.out HW.out) HK.out).mono ?_; rintro e w1 ⟨ca, rfl, hca, hb1⟩; have CA := Aside0.mk hca; have CL := Aside0.mk (acc_get hca).1; have K1 := Aside0.mk ((K0.out.below hb1).alloc (.cells ca.toArray 101)); have HW1 := Aside0.mk ((bstep HW.out hb1).alloc (bstep HW.out hb1).size (.cells ca.toArray 101)); clear hb1 hca)
    | (refine st_new rfl 101 _ _ rfl rfl (cs := zAccs) (vs := ca) rfl rfl CL.out ?_ (kAcc.K_one CA.out) ?_; (rw [CL.out]; kernel_rfl)))
  clear HW K0
  generalize w1.alloc (.cells ca.toArray 101) = W1 at *
  generalize w1.heap.size = Ba at *
  have hd := HD.out
  unfold SerAns at hd
  generalize (findA id b.accs).2 = is at *
  clear HD CA
  rcases hd with ⟨rfl, rfl, rfl⟩ | ⟨rfl, hv, rfl, rfl⟩ | ⟨rfl, hv, hlen, hacc, rfl⟩
  · go_wp2
    go_ret2
    exact ⟨_, rfl, ⟨by simp [Value.ownBlock], [], ⟨rfl, .inl ⟨rfl, rfl⟩⟩, Reps.none _ _⟩, HW1.out⟩
  · unfold serOk at hv
    cases c1 : vd f
    · clear hv
      go_wp2_with (first | (go_at_call 52; refine (valid_any _ _).mono ?_; rintro e w2 ⟨rfl, ⟨nd, rfl⟩⟩))
      go_ret2
      refine ⟨_, rfl, ⟨by simp [Value.ownBlock], [], ⟨rfl, .inl ⟨rfl, rfl⟩⟩, Reps.none _ _⟩, ?_⟩
      repeat (first | exact HW1.out | refine pw_below_drewN ?_ _)
    · cases c2 : vd t
      · clear hv
        go_wp2_with (first | (go_at_call 52; refine (valid_any _ _).mono ?_; rintro e w2 ⟨rfl, ⟨nd, rfl⟩⟩))
        go_ret2
        refine ⟨_, rfl, ⟨by simp [Value.ownBlock], [], ⟨rfl, .inl ⟨rfl, rfl⟩⟩, Reps.none _ _⟩, ?_⟩
        repeat (first | exact HW1.out | refine pw_below_drewN ?_ _)
      · have bf := vd_bd c1
        have bt := vd_bd c2
        by_cases q3 : f ≤ t
        · have q4 : ¬ t - f < 4000 := by
            intro q
            rw [c1, c2] at hv
            simp [q3] at hv
            omega
          clear hv
          go_wp2_with (first | (go_at_call 52; refine (valid_any _ _).mono ?_; rintro e w2 ⟨rfl, ⟨nd, rfl⟩⟩))
          go_ret2
          refine ⟨_, rfl, ⟨by simp [Value.ownBlock], [], ⟨rfl, .inl ⟨rfl, rfl⟩⟩, Reps.none _ _⟩, ?_⟩
          repeat (first | exact HW1.out | refine pw_below_drewN ?_ _)
        · clear hv
          go_wp2_with (first | (go_at_call 52; refine (valid_any _ _).mono ?_; rintro e w2 ⟨rfl, ⟨nd, rfl⟩⟩))
          go_ret2
          refine ⟨_, rfl, ⟨by simp [Value.ownBlock], [], ⟨rfl, .inl ⟨rfl, rfl⟩⟩, Reps.none _ _⟩, ?_⟩
          repeat (first | exact HW1.out | refine pw_below_drewN ?_ _)
  · obtain ⟨c1, c2, q3, q4⟩ := serOk_all hv
    have bf := vd_bd c1
    have bt := vd_bd c2
    have ACC := Aside0.mk hacc
    have LEN := Aside0.mk hlen
    clear hv hacc hlen
    go_upto_region 6 with (first | (go_at_call 52; refine (valid_any _ _).mono ?_; rintro e w2 ⟨rfl, ⟨nd, rfl⟩⟩))
    generalize (_ : Nat) + nd = m
    have K2 := Aside0.mk (K1.out.drewN (n := m))
    have HW2 := Aside0.mk (pw_below_drewN HW1.out m)
    generalize W1.drewN m = W2 at *
    clear K1 HW1
    obtain ⟨i0, hi, hz0, hz1, hz2⟩ := info_parts (show (Try.prog.info? 66).map (fun i => (i.zero, i.size, i.bytes)) = some (some (.agg (acL 0 0 0 0 0 0 0).toArray), 7, 56) by kernel_rfl)
    have INF := Aside0.mk (And.intro hi (And.intro hz0 (And.intro hz1 hz2)))
    clear hi hz0 hz1 hz2
    have hn0 : t - f + 1 = ((t - f + 1).toNat : Int) := by omega
    have HN0 := Aside0.mk hn0
    have hlx : (l.length : Int) = t - f + 1 := LEN.out
    have hlen2 : l.length ≤ 4000 := by omega
    have L2 := Aside0.mk hlen2
    clear hn0 hlx
    go_wp2_with (first
      | (refine ld_rng rfl 63 _ rfl (p := ⟨w.heap.size, 0, none⟩) rfl (cs := cs) K2.out.rng Try.underlying63 rfl ?_ ?_; (rw [HL.out]; kernel_rfl))
      | (go_at_call 53; refine (daily_calls cs _ _).mono ?_; rintro e w3 ⟨rfl, rfl⟩)
      | (refine wpList_make_own _ rfl _ _ 70 rfl ((W2.alloc (.cells cs.toArray 63)).alloc (.cells #[.int .i64 id] 3)).heap.size 66 i0 (.agg (acL 0 0 0 0 0 0 0).toArray) 7 Try.underlying70 INF.out.1 INF.out.2.1 INF.out.2.2.1 .i64 .i64 _ (t - f + 1).toNat rfl rfl HN0.out ?mk1 ?mk2 (Nat.le_refl _) ?_; (case mk1 => rw [INF.out.2.2.2]; omega); (case mk2 => unfold maxLen; omega); intro w4 hown hgrow))
    have I3 := Blk.newAt (W2.alloc (.cells cs.toArray 63)) (g := W2.heap.size + 1) (by simp) [.int .i64 id] 3
    have K3 := (Blk.new W2 cs 63).alloc (.cells #[.int .i64 id] 3)
    have hW3 := (HW2.out.alloc HW2.out.size (.cells cs.toArray 63)).alloc (HW2.out.alloc HW2.out.size (.cells cs.toArray 63)).size (.cells #[.int .i64 id] 3)
    have hsz : ((W2.alloc (.cells cs.toArray 63)).alloc (.cells #[.int .i64 id] 3)).heap.size = W2.heap.size + 2 := by simp
    have hNN : ((W2.alloc (.cells cs.toArray 63)).alloc (.cells #[.int .i64 id] 3)).heap.size = W2.heap.size + 1 + 1 := by simp
    generalize hW3g : (W2.alloc (.cells cs.toArray 63)).alloc (.cells #[.int .i64 id] 3) = W3 at *
    clear hW3g
    obtain ⟨N, hN⟩ : ∃ N, N = W2.heap.size + 1 + 1 := ⟨_, rfl⟩
    rw [hNN] at hown hsz
    rw [← hN] at hown hNN
    have HN := Aside0.mk hNN
    clear hNN
    have hb4 : Below N W3 w4 := (Below.refl N W3).grown hgrow (by rw [HN.out]; exact Nat.le_refl _) (fun k e => by cases e)
    have I4 := Aside0.mk (I3.belowN hb4 (by omega))
    have K4 := Aside0.mk (K3.belowN hb4 (by omega))
    have HW4 := Aside0.mk (hW3.trans (hb4.mono (by have := hW3.size; rw [HN.out] at this; omega)))
    have R4 : Kd.R k66 66 w4 N (fun _ => True) (.slice (some ⟨N, 0, none⟩) 0 (t - f + 1).toNat) [] := ⟨fun _ _ => trivial, [], hown, Reps.none _ _⟩
    have R4 := Aside0.mk R4
    have HN4 := Aside0.mk (show N ≤ w4.heap.size by have := hb4.size; rw [HN.out] at this; exact this)
    clear hown hgrow I3 K3 hW3 hsz hb4
    subst hN
    go_loopw [13, 14] (fun ov dv wr => ∃ (x : Nat), x ≤ l.length ∧ dv = .int .i64 (f + x) ∧ Aside0 (Kd.R k66 66 wr (W2.heap.size + 1 + 1) (fun _ => True) ov (l.take x)) ∧ Aside0 (Below (W2.heap.size + 1 + 1) w4 wr)) (fun _ dv _ => (t + 1 - intOf dv).toNat)
    case atStart => exact ⟨0, by omega, by simp, R4, ⟨Below.refl _ _⟩⟩
    case round =>
      obtain ⟨x, k1, rfl, hR, hB⟩ := hrel
      have hll : (l.length : Int) = t - f + 1 := LEN.out
      have SZ := Aside0.mk (show W2.heap.size + 1 + 1 ≤ wr.heap.size from Nat.le_trans HN4.out hB.out.size)
      by_cases hlt : x < l.length
      · have hle : f + x ≤ t := by omega
        have h73 : f + x ≤ 73048 := by omega
        obtain ⟨a0, a1, hdi⟩ := ACC.out x hlt
        have hM : ∀ W, Kd.M k66 W (W2.heap.size + 1 + 1) (fun _ => False) l[x] (acL id (f + x) l[x].f2 l[x].f3.f0 l[x].f3.f1 l[x].f4.f0 l[x].f4.f1) := fun W => by
          have := k66_mkM W (W2.heap.size + 1 + 1) (fun _ => False) l[x]
          rw [a0, a1] at this
          exact this
        have HM := Aside0.mk hM
        have HDI := Aside0.mk hdi
        have htk : l.take (x + 1) = l.take x ++ [l[x]] := List.take_succ_eq_append_getElem hlt
        have TK := Aside0.mk htk
        have I5 := Aside0.mk (I4.out.belowN hB.out (by omega))
        have K5 := Aside0.mk (K4.out.belowN hB.out (by omega))
        have HW5 := Aside0.mk (HW4.out.trans (hB.out.mono (by have := HW2.out.size; omega)))
        have hlx : (l.take x).length ≤ 4000 := by have := L2.out; rw [List.length_take]; omega
        have LX56 := Aside0.mk (show ((l.take x).length + 1) * 56 ≤ 140737488355328 by omega)
        clear a0 a1 hdi hM htk hll hlx
        generalize l[x] = xx at *
        go_wp2_with (first
          | (go_at_call 75; refine (daily1_calls cs b id (f + x) xx.f2 xx.f3.f0 xx.f3.f1 xx.f4.f0 xx.f4.f1 (W2.heap.size + 1) W2.heap.size w0 _ (bstep HB0.out HW5.out) HK.out I5.out K5.out HF.out HDI.out).mono ?_; rintro e w6 ⟨rfl, hb6⟩; have R6 := Aside0.mk (Kd.R_below hR.out hb6); have HB6 := Aside0.mk (hB.out.trans (hb6.mono SZ.out)); have SZ6 := Aside0.mk (Nat.le_trans SZ.out hb6.size); clear hb6)
          | (at_builtin; refine Kd.R_append k66 (W2.heap.size + 1 + 1) rfl _ _ 70 66 (.agg (acL 0 0 0 0 0 0 0).toArray) 56 rfl Try.underlying70 (by kernel_rfl) rfl (by decide) (by decide) u13 (l.take x) xx (acL id (f + x) xx.f2 xx.f3.f0 xx.f3.f1 xx.f4.f0 xx.f4.f1) (fun _ => True) (fun _ => False) rfl rfl (HM.out _) (fun _ h => h.elim) (fun _ _ => trivial) R6.out HB6.out SZ6.out ?_ ?_; (exact LX56.out); intro v7 w7 hR7 hB7 hg7 hat7))
        refine ⟨⟨x + 1, by omega, by congr 1; omega, ⟨by rw [TK.out]; exact hR7⟩, ⟨hB7⟩⟩, ?_⟩
        simp [intOf]
        omega
      · have hle : ¬ f + x ≤ t := by omega
        have hxl : l.take x = l := List.take_of_length_le (by omega)
        have HR := hR.out
        rw [hxl] at HR
        have HRR := Aside0.mk HR
        clear HR hxl
        have hws := HW2.out.size
        go_wp2
        go_ret2
        exact ⟨_, rfl, Kd.R_lower HRR.out (by omega), HW4.out.trans (hB.out.mono (by omega))⟩
end Go.Proofs.Ytlmabdiodopidaa.G
end
section
set_option linter.unusedVariables false
set_option linter.unusedSimpArgs false
namespace Go.Proofs.Ytlmabdiodopidaa.G
set_option maxRecDepth 100000
open Go.RowKit Go.Proofs.YtlmabdiodopidaaW.PrintWords Go.Proofs.YtlmabdiodopidaaW.PrintLast Go.Proofs.YtlmabdiodopidaaW.PrintMore Go.Proofs.Ytlmabdiodopidaa.P
/-- the interest of a day, checked -/
def grOk (x : Intr) (bal day hi lo : Int) : Bool :=
  match tier_Slices.f 200 x.tiers x.marg bal, daycount_Weight.f 200 x.basis day with
  | some sl, some wt => match tier_Grains.f 200 sl wt with
    | some (g1, g2, e) => decide (hi = gz e g1) && decide (lo = gz e g2)
    | none => false
  | _, _ => false
theorem gr_of {x : Intr} {bal day hi lo : Int} (h : grOk x bal day hi lo = true) : GrIs x bal day hi lo := by
  unfold grOk at h
  split at h
  · rename_i sl wt h1 h2
    split at h
    · rename_i g1 g2 e h3
      rw [Bool.and_eq_true, decide_eq_true_iff, decide_eq_true_iff] at h
      exact ⟨200, sl, wt, g1, g2, e, h1, h2, h3, h.1, h.2⟩
    · cases h
  · cases h
def samL : List S66 := [⟨1000, 0, 0, ⟨0, 0⟩, ⟨0, 0⟩⟩, ⟨1000, 1, 0, ⟨0, 0⟩, ⟨0, 0⟩⟩, ⟨1000, 2, 100000, ⟨0, 6588000000000⟩, ⟨0, 0⟩⟩, ⟨1000, 3, 100000, ⟨0, 6588000000000⟩, ⟨0, 0⟩⟩, ⟨1000, 4, -100000, ⟨0, 0⟩, ⟨0, 6588000000000⟩⟩]
theorem samFew : FewT samB.prods := by
  intro p hp
  have e : p = samPrd := List.mem_singleton.1 hp
  subst e
  exact ⟨by decide, by decide⟩
theorem sam0 : DayIs samB 1000 0 0 0 0 0 0 := .inl ⟨by decide +kernel, rfl, rfl, rfl, rfl, rfl⟩
theorem sam1 : DayIs samB 1000 1 0 0 0 0 0 := .inr ⟨by decide +kernel, by decide +kernel, .inr ⟨by decide +kernel, .inr (.inr ⟨rfl, rfl, rfl, rfl, rfl⟩)⟩⟩
theorem side_same {b : Bk} {id day bal chi clo dhi dlo : Int} (hs : (sideP (prodA b id day).1 bal).tiers = samIntr.tiers ∧ (sideP (prodA b id day).1 bal).marg = samIntr.marg ∧ (sideP (prodA b id day).1 bal).basis = samIntr.basis) (h : SideIs samIntr bal day chi clo dhi dlo) : SideIs (sideP (prodA b id day).1 bal) bal day chi clo dhi dlo := by
  obtain ⟨h1, h2, h3⟩ := hs
  unfold SideIs GrIs
  rw [h1, h2, h3]
  exact h
theorem sam2 : DayIs samB 1000 2 100000 0 6588000000000 0 0 := .inr ⟨by decide +kernel, by decide +kernel, .inr ⟨by decide +kernel, side_same ⟨by kernel_rfl, by kernel_rfl, by kernel_rfl⟩ (.inl ⟨by decide, gr_of (by decide +kernel), rfl, rfl⟩)⟩⟩
theorem sam3 : DayIs samB 1000 3 100000 0 6588000000000 0 0 := .inr ⟨by decide +kernel, by decide +kernel, .inr ⟨by decide +kernel, side_same ⟨by kernel_rfl, by kernel_rfl, by kernel_rfl⟩ (.inl ⟨by decide, gr_of (by decide +kernel), rfl, rfl⟩)⟩⟩
theorem sam4 : DayIs samB 1000 4 (-100000) 0 0 0 6588000000000 := .inr ⟨by decide +kernel, by decide +kernel, .inr ⟨by decide +kernel, side_same ⟨by kernel_rfl, by kernel_rfl, by kernel_rfl⟩ (.inr (.inl ⟨by decide, gr_of (by decide +kernel), rfl, rfl⟩))⟩⟩
theorem samSer : SerAns samB 1000 0 4 samL 0 := .inr (.inr ⟨by decide +kernel, by decide +kernel, by decide, fun i h => by
  have h5 : i < 5 := h
  have : i = 0 ∨ i = 1 ∨ i = 2 ∨ i = 3 ∨ i = 4 := by omega
  rcases this with rfl | rfl | rfl | rfl | rfl
  · exact ⟨rfl, rfl, sam0⟩
  · exact ⟨rfl, rfl, sam1⟩
  · exact ⟨rfl, rfl, sam2⟩
  · exact ⟨rfl, rfl, sam3⟩
  · exact ⟨rfl, rfl, sam4⟩, rfl⟩)
theorem samDay : DayAns samB 1000 3 1000 3 100000 0 6588000000000 0 0 0 := .inr (.inr ⟨by decide +kernel, by decide +kernel, rfl, rfl, sam3, rfl⟩)
theorem samNone : DayAns samB 1001 3 0 0 0 0 0 0 0 11 := .inl ⟨by decide +kernel, rfl, rfl, rfl, rfl, rfl, rfl, rfl, rfl⟩
theorem samTot : totP wide_Add.f samL 0 0 0 0 = some (0, 13176000000000, 0, 6588000000000, 0) := by decide +kernel
theorem of6 : corebankref01_Of.f 6588000000000 = some (0, 6588000000000) := by decide +kernel
theorem of13 : corebankref01_Of.f 13176000000000 = some (0, 13176000000000) := by decide +kernel
end Go.Proofs.Ytlmabdiodopidaa.G
end
section
set_option linter.unusedVariables false
set_option linter.unusedSimpArgs false
namespace Go.Proofs.Ytlmabdiodopidaa.G
open Go.RowKit Go.Proofs.YtlmabdiodopidaaW.PrintWords Go.Proofs.YtlmabdiodopidaaW.PrintLast Go.Proofs.YtlmabdiodopidaaW.PrintMore Go.Proofs.Ytlmabdiodopidaa.P
/-- the box of a number of two cells -/
structure PBox (N : Nat) (W : World) (g : Nat) : Prop where
  blk : Blk W g zWd 35
  le : N ≤ g
theorem PBox.below {N g : Nat} {W W1 : World} (h : PBox N W g) (hb : Below W.heap.size W W1) : PBox N W1 g := ⟨h.blk.below hb, h.le⟩
theorem PBox.ne {N g B : Nat} {W : World} (h : PBox N W g) (hb : B < N) : g ≠ B := by have := h.le; omega
theorem PBox.c0 {N g : Nat} {W : World} (h : PBox N W g) : W.cell? ⟨g, 0, none⟩ = some (.int .i64 0) := h.blk.cell 0
theorem PBox.c1 {N g : Nat} {W : World} (h : PBox N W g) : W.cell? ⟨g, 1, none⟩ = some (.int .u64 0) := h.blk.cell 1
theorem PBox.z0 {N g : Nat} {W : World} (h : PBox N W g) : W.frozen? ⟨g, 0, none⟩ = false := h.blk.frozen 0
theorem PBox.z1 {N g : Nat} {W : World} (h : PBox N W g) : W.frozen? ⟨g, 1, none⟩ = false := h.blk.frozen 1
end Go.Proofs.Ytlmabdiodopidaa.G
end
section
set_option linter.unusedVariables false
set_option linter.unusedSimpArgs false
namespace Go.Proofs.Ytlmabdiodopidaa.G
set_option maxRecDepth 100000
open Go.RowKit Go.Proofs.YtlmabdiodopidaaW.PrintWords Go.Proofs.YtlmabdiodopidaaW.PrintLast Go.Proofs.YtlmabdiodopidaaW.PrintMore Go.Proofs.Ytlmabdiodopidaa.P
theorem of_any {a r1 r2 : Int} (h : corebankref01_Of.f a = some (r1, r2)) (w : World) : Calls Try.prog 41 #[.int .i64 a] w fun e w' => e = .returned (.agg #[.int .i64 r1, .int .u64 r2]) ∧ Below w.heap.size w w' := corebankref01_Of.calls a r1 r2 w h
set_option maxHeartbeats 4000000 in
theorem lives_calls (w : World) :
    Calls Try.prog 30 #[] w fun e w' => e = .returned (.bool true) ∧ Below w.heap.size w w' := by
  go_enter Try.func30, Try.ntmps30
  go_upto_region 2 with (first
    | (go_at_call 41; refine (of_any of6 _).mono ?_; rintro e w1 ⟨rfl, hb1⟩; have HB1 := Aside0.mk hb1; clear hb1))
  have G1 := Aside0.mk (Blk.new w1 [.int .i64 0, .int .u64 6588000000000] 35)
  have HW := Aside0.mk (HB1.out.alloc HB1.out.size (.cells [.int .i64 0, .int .u64 6588000000000].toArray 35))
  have O1 := Aside0.mk HB1.out.size
  clear HB1
  generalize World.alloc _ _ = W1 at *
  generalize w1.heap.size = gd at *
  go_upto_region 5 with (first
    | (go_at_call 50; refine (sample_calls _).mono ?_; rintro e w2 ⟨cs, rfl, hk2, hb2⟩; have HK2 := Aside0.mk hk2; have HB2 := Aside0.mk hb2; clear hk2 hb2)
    | (go_at_call 33; refine (series_calls cs samB 1000 0 4 samL 0 w2 w2 (Below.refl _ _) HK2.out samFew samSer).mono ?_; rintro e w3 ⟨v, rfl, hr, hb3⟩; obtain ⟨A, c, hv, -, hC⟩ := Kd.R_reads hr; have hv5 : v = .slice A 5 c := hv; subst hv5; have HC := Aside0.mk hC; have HB3 := Aside0.mk hb3; clear hr hb3 hv hC))
  have HW3 := Aside0.mk (bstep (bstep HW.out HB2.out) HB3.out)
  have G3 := Aside0.mk ((G1.out.below HB2.out).below HB3.out)
  obtain ⟨ad, ce, hA, hcl, hcK, hcR⟩ := row_at HC.out Go.Proofs.Ytlmabdiodopidaa.P.z66 (4 : Int) (by omega) (by decide)
  obtain ⟨ad', cf, hA', hfl, hfK, hfR⟩ := row_at HC.out Go.Proofs.Ytlmabdiodopidaa.P.z66 (0 : Int) (by omega) (by decide)
  subst hA
  cases hA'
  have hce : ce = acL 1000 4 (-100000) 0 0 0 6588000000000 := k66_open hcK
  have hcf : cf = acL 1000 0 0 0 0 0 0 := k66_open hfK
  subst hce
  subst hcf
  have R4 := Aside0.mk hcR
  have R0 := Aside0.mk hfR
  clear hcl hcK hcR hfl hfK hfR HW G1 HK2 HB2 HB3
  go_upto_region 6 with (first
    | (go_at_call 50; refine (sample_calls _).mono ?_; rintro e w4 ⟨cs, rfl, hk2, hb2⟩; have HK2 := Aside0.mk hk2; have HB2 := Aside0.mk hb2; clear hk2 hb2)
    | (go_at_call 31; refine (day_calls cs samB 1000 3 1000 3 100000 0 6588000000000 0 0 0 w4 w4 (Below.refl _ _) HK2.out samFew samDay).mono ?_; rintro e w5 ⟨rfl, hb3⟩; have HB3 := Aside0.mk hb3; clear hb3))
  have hb5 := bstep HB2.out HB3.out
  have G5 := Aside0.mk ((G3.out.below hb5).alloc (.cells (acL 1000 3 100000 0 6588000000000 0 0).toArray 66))
  have D5 := Aside0.mk (Blk.new w5 (acL 1000 3 100000 0 6588000000000 0 0) 66)
  have HL5 := Aside0.mk (hb5.alloc hb5.size (.cells (acL 1000 3 100000 0 6588000000000 0 0).toArray 66))
  have O5 := Aside0.mk (Nat.le_trans (Nat.le_trans O1.out (Nat.le_of_lt G3.out.lt)) hb5.size)
  clear hb5 HK2 HB2 HB3 G3
  generalize World.alloc _ _ = W5 at *
  generalize w5.heap.size = ge at *
  go_upto_region 7 with (first
    | (go_at_call 50; refine (sample_calls _).mono ?_; rintro e w6 ⟨cs, rfl, hk2, hb2⟩; have HK2 := Aside0.mk hk2; have HB2 := Aside0.mk hb2; clear hk2 hb2)
    | (go_at_call 31; refine (day_calls cs samB 1001 3 0 0 0 0 0 0 0 11 w6 w6 (Below.refl _ _) HK2.out samFew samNone).mono ?_; rintro e w7 ⟨rfl, hb3⟩; have HB3 := Aside0.mk hb3; clear hb3))
  have hb7 := bstep HB2.out HB3.out
  have G7 := Aside0.mk ((G5.out.below hb7).alloc (.cells (acL 0 0 0 0 0 0 0).toArray 66))
  have D7 := Aside0.mk ((D5.out.below hb7).alloc (.cells (acL 0 0 0 0 0 0 0).toArray 66))
  have HL7 := Aside0.mk (bstep HL5.out (hb7.alloc hb7.size (.cells (acL 0 0 0 0 0 0 0).toArray 66)))
  clear hb7 HK2 HB2 HB3 G5 D5 HL5
  generalize World.alloc _ _ = W7 at *
  generalize w7.heap.size = gu at *
  go_upto_region 8 with (first
    | (go_at_call 36; refine (total_calls (some ad) c samL 0 13176000000000 0 6588000000000 0 w3 W7 HL7.out HC.out samTot).mono ?_; rintro e w8 ⟨rfl, hb8⟩; have HB8 := Aside0.mk hb8; clear hb8))
  have G8 := Aside0.mk (((G7.out.below HB8.out).alloc (.cells [.int .i64 0, .int .u64 13176000000000].toArray 35)).alloc (.cells [.int .i64 0, .int .u64 6588000000000].toArray 35))
  have D8 := Aside0.mk (((D7.out.below HB8.out).alloc (.cells [.int .i64 0, .int .u64 13176000000000].toArray 35)).alloc (.cells [.int .i64 0, .int .u64 6588000000000].toArray 35))
  have T81 := Aside0.mk ((Blk.new w8 [.int .i64 0, .int .u64 13176000000000] 35).alloc (.cells [.int .i64 0, .int .u64 6588000000000].toArray 35))
  have T82 := Aside0.mk (Blk.newAt (w8.alloc (.cells [.int .i64 0, .int .u64 13176000000000].toArray 35)) (g := w8.heap.size + 1) (by simp) [.int .i64 0, .int .u64 6588000000000] 35)
  have hl8 := bstep HL7.out HB8.out
  have HL8 := Aside0.mk ((hl8.alloc hl8.size (.cells [.int .i64 0, .int .u64 13176000000000].toArray 35)).alloc (by have := hl8.size; simp; omega) (.cells [.int .i64 0, .int .u64 6588000000000].toArray 35))
  clear hl8 HB8 G7 D7 HL7
  generalize World.alloc _ _ = W8 at *
  generalize hg2 : w8.heap.size + 1 = g2 at *
  generalize w8.heap.size = g1 at *
  clear hg2
  have R48 : Aside0 (Rng W8 (ad.add (4 * 7)) (acL 1000 4 (-100000) 0 0 0 6588000000000)) := ⟨R4.out.below HL8.out⟩
  have R08 : Aside0 (Rng W8 (ad.add (0 * 7)) (acL 1000 0 0 0 0 0 0)) := ⟨R0.out.below HL8.out⟩
  have HW8 := Aside0.mk (bstep HW3.out HL8.out)
  have y0 : W8.cell? ⟨ge, 0, none⟩ = some (.int .i64 1000) := D8.out.cell 0
  have y1 : W8.cell? ⟨ge, 1, none⟩ = some (.int .i64 3) := D8.out.cell 1
  have y2 : W8.cell? ⟨ge, 2, none⟩ = some (.int .i64 100000) := D8.out.cell 2
  have y3 : W8.cell? ⟨ge, 3, none⟩ = some (.int .i64 0) := D8.out.cell 3
  have y4 : W8.cell? ⟨ge, 4, none⟩ = some (.int .u64 6588000000000) := D8.out.cell 4
  have y5 : W8.cell? ⟨ge, 5, none⟩ = some (.int .i64 0) := D8.out.cell 5
  have y6 : W8.cell? ⟨ge, 6, none⟩ = some (.int .u64 0) := D8.out.cell 6
  have y7 : W8.cell? ⟨ad.block, ad.off + 28, none⟩ = some (.int .i64 1000) := R48.out.at0 rfl
  have y8 : W8.cell? ⟨ad.block, ad.off + 28 + 1, none⟩ = some (.int .i64 4) := R48.out.at_ 1 (by omega) rfl
  have y9 : W8.cell? ⟨ad.block, ad.off + 28 + 2, none⟩ = some (.int .i64 (-100000)) := R48.out.at_ 2 (by omega) rfl
  have y10 : W8.cell? ⟨ad.block, ad.off + 28 + 3, none⟩ = some (.int .i64 0) := R48.out.at_ 3 (by omega) rfl
  have y11 : W8.cell? ⟨ad.block, ad.off + 28 + 4, none⟩ = some (.int .u64 0) := R48.out.at_ 4 (by omega) rfl
  have y12 : W8.cell? ⟨ad.block, ad.off + 28 + 5, none⟩ = some (.int .i64 0) := R48.out.at_ 5 (by omega) rfl
  have y13 : W8.cell? ⟨ad.block, ad.off + 28 + 6, none⟩ = some (.int .u64 6588000000000) := R48.out.at_ 6 (by omega) rfl
  have y14 : W8.cell? ad = some (.int .i64 1000) := R08.out.at0 rfl
  have y15 : W8.cell? ⟨ad.block, ad.off + 1, none⟩ = some (.int .i64 0) := R08.out.at_ 1 (by omega) rfl
  have y16 : W8.cell? ⟨ad.block, ad.off + 2, none⟩ = some (.int .i64 0) := R08.out.at_ 2 (by omega) rfl
  have y17 : W8.cell? ⟨ad.block, ad.off + 3, none⟩ = some (.int .i64 0) := R08.out.at_ 3 (by omega) rfl
  have y18 : W8.cell? ⟨ad.block, ad.off + 4, none⟩ = some (.int .u64 0) := R08.out.at_ 4 (by omega) rfl
  have y19 : W8.cell? ⟨ad.block, ad.off + 5, none⟩ = some (.int .i64 0) := R08.out.at_ 5 (by omega) rfl
  have y20 : W8.cell? ⟨ad.block, ad.off + 6, none⟩ = some (.int .u64 0) := R08.out.at_ 6 (by omega) rfl
  have y21 : W8.cell? ⟨gd, 0, none⟩ = some (.int .i64 0) := G8.out.cell 0
  have y22 : W8.cell? ⟨gd, 1, none⟩ = some (.int .u64 6588000000000) := G8.out.cell 1
  have y23 : W8.cell? ⟨g1, 0, none⟩ = some (.int .i64 0) := T81.out.cell 0
  have y24 : W8.cell? ⟨g1, 1, none⟩ = some (.int .u64 13176000000000) := T81.out.cell 1
  have y25 : W8.cell? ⟨g2, 0, none⟩ = some (.int .i64 0) := T82.out.cell 0
  have y26 : W8.cell? ⟨g2, 1, none⟩ = some (.int .u64 6588000000000) := T82.out.cell 1
  clear G8 D8 T81 T82 R48 R08 R4 R0 HL8 HW3 HC
  go_region_held3 (fun w' => w'.cell? ⟨ge, 0, none⟩ = some (.int .i64 1000) ∧ w'.cell? ⟨ge, 1, none⟩ = some (.int .i64 3) ∧ w'.cell? ⟨ge, 2, none⟩ = some (.int .i64 100000) ∧ w'.cell? ⟨ge, 3, none⟩ = some (.int .i64 0) ∧ w'.cell? ⟨ge, 4, none⟩ = some (.int .u64 6588000000000) ∧ w'.cell? ⟨ge, 5, none⟩ = some (.int .i64 0) ∧ w'.cell? ⟨ge, 6, none⟩ = some (.int .u64 0) ∧ w'.cell? ⟨ad.block, ad.off + 28, none⟩ = some (.int .i64 1000) ∧ w'.cell? ⟨ad.block, ad.off + 28 + 1, none⟩ = some (.int .i64 4) ∧ w'.cell? ⟨ad.block, ad.off + 28 + 2, none⟩ = some (.int .i64 (-100000)) ∧ w'.cell? ⟨ad.block, ad.off + 28 + 3, none⟩ = some (.int .i64 0) ∧ w'.cell? ⟨ad.block, ad.off + 28 + 4, none⟩ = some (.int .u64 0) ∧ w'.cell? ⟨ad.block, ad.off + 28 + 5, none⟩ = some (.int .i64 0) ∧ w'.cell? ⟨ad.block, ad.off + 28 + 6, none⟩ = some (.int .u64 6588000000000) ∧ w'.cell? ad = some (.int .i64 1000) ∧ w'.cell? ⟨ad.block, ad.off + 1, none⟩ = some (.int .i64 0) ∧ w'.cell? ⟨ad.block, ad.off + 2, none⟩ = some (.int .i64 0) ∧ w'.cell? ⟨ad.block, ad.off + 3, none⟩ = some (.int .i64 0) ∧ w'.cell? ⟨ad.block, ad.off + 4, none⟩ = some (.int .u64 0) ∧ w'.cell? ⟨ad.block, ad.off + 5, none⟩ = some (.int .i64 0) ∧ w'.cell? ⟨ad.block, ad.off + 6, none⟩ = some (.int .u64 0) ∧ w'.cell? ⟨gd, 0, none⟩ = some (.int .i64 0) ∧ w'.cell? ⟨gd, 1, none⟩ = some (.int .u64 6588000000000) ∧ w'.cell? ⟨g1, 0, none⟩ = some (.int .i64 0) ∧ w'.cell? ⟨g1, 1, none⟩ = some (.int .u64 13176000000000) ∧ w'.cell? ⟨g2, 0, none⟩ = some (.int .i64 0) ∧ w'.cell? ⟨g2, 1, none⟩ = some (.int .u64 6588000000000))
    (first
      | exact ⟨y0, y1, y2, y3, y4, y5, y6, y7, y8, y9, y10, y11, y12, y13, y14, y15, y16, y17, y18, y19, y20, y21, y22, y23, y24, y25, y26⟩
      | go_keep
      | (go_split_ands
         refine ⟨?_, ?_, ?_, ?_, ?_, ?_, ?_, ?_, ?_, ?_, ?_, ?_, ?_, ?_, ?_, ?_, ?_, ?_, ?_, ?_, ?_, ?_, ?_, ?_, ?_, ?_, ?_⟩ <;> exact keepc hb9 (by assumption))
      | fail)
    (first
      | (go_at_call 41; refine (of_any of13 _).mono ?_; rintro e w9 ⟨rfl, hb9⟩)
      | fail)
  have hb : Below w.heap.size w w9 := bstep HW8.out (by first | exact bstep (pw_below_drewN (Below.refl _ W8) _) hb9 | exact bstep (Below.refl _ W8).drew hb9)
  go_wp2
  go_ret
  exact ⟨rfl, hb⟩
end Go.Proofs.Ytlmabdiodopidaa.G
end
section
set_option linter.unusedVariables false
set_option linter.unusedSimpArgs false
namespace Go.Proofs.Ytlmabdiodopidaa.G
set_option maxRecDepth 100000
open Go.RowKit Go.Proofs.YtlmabdiodopidaaW.PrintWords Go.Proofs.YtlmabdiodopidaaW.PrintLast Go.Proofs.YtlmabdiodopidaaW.PrintMore Go.Proofs.Ytlmabdiodopidaa.P
/-- small books -/
def FewB (b : Bk) : Prop := b.accs.length ≤ 12 ∧ b.prods.length ≤ 30 ∧ b.jour.length ≤ 60 ∧ FewT b.prods ∧ (∀ e ∈ b.jour, e.legs.length ≤ 20)
/-- an answer that means small books -/
def FewAns (b : Bk) (r : Bool) : Prop := r = true → FewB b
theorem fewAns_false (b : Bk) : FewAns b false := fun h => by cases h
/-- what Few answers -/
def FewRes (b : Bk) (e : Ending) : Prop := ∃ r, e = .returned (.bool r) ∧ FewAns b r
theorem fewRes_false (b : Bk) : FewRes b (.returned (.bool false)) := ⟨_, rfl, fewAns_false b⟩
theorem prd_tiers {w : World} {x : Prd} {cs : List Value} (h : kPrd.K w x cs) : ∃ A c B d, cs[7]? = some (.slice A x.cr.tiers.length c) ∧ cs[12]? = some (.slice B x.db.tiers.length d) := by
  obtain ⟨-, h1, h2⟩ := prd_sides h
  obtain ⟨A, c, -, a0, -⟩ := intr_get h1
  obtain ⟨B, d, -, b0, -⟩ := intr_get h2
  refine ⟨A, c, B, d, ?_, ?_⟩
  · rw [← a0]; simp [List.getElem?_take, List.getElem?_drop]
  · rw [← b0]; simp [List.getElem?_take, List.getElem?_drop]
theorem get_nat {α : Type} (l : List α) (z : α) (x : Nat) (h : x < l.length) : l.getD (x : Int).toNat z = l[x] := by rw [Int.toNat_natCast, List.getD_eq_getElem?_getD, List.getElem?_eq_getElem h, Option.getD_some]
theorem all_snoc {α : Type} {l : List α} {p : α → Prop} {x : Nat} (h : x < l.length) (hp : ∀ a ∈ l.take x, p a) (hx : p l[x]) : ∀ a ∈ l.take (x + 1), p a := by
  intro a ha
  rw [List.take_succ_eq_append_getElem h, List.mem_append, List.mem_singleton] at ha
  rcases ha with ha | rfl
  · exact hp a ha
  · exact hx
set_option maxHeartbeats 2000000 in
theorem few_calls (cs : List Value) (b : Bk) (w0 w : World) (hb0 : Below w0.heap.size w0 w) (hk : kBk.K w0 b cs) :
    Calls Try.prog 29 #[.agg cs.toArray] w fun e w' => FewRes b e ∧ Below w.heap.size w w' := by
  obtain ⟨A1, c1, A2, c2, A3, c3, hl, g1, g2, g3, hP, hA, hJ, l1, l2, l3⟩ := bk_get hk
  have HP := Aside0.mk hP
  have HJ := Aside0.mk hJ
  have HB0 := Aside0.mk hb0
  have mP := Kd.C_max hP
  have mA := Kd.C_max hA
  have mJ := Kd.C_max hJ
  clear hk hA hP hJ hb0 hl l1 l2 l3
  go_enter Try.func29, Try.ntmps29
  have HB := Aside0.mk ((Below.refl w.heap.size w).alloc (Nat.le_refl _) (.cells cs.toArray 63))
  have HC := Aside0.mk (Blk.new w cs 63)
  by_cases hs : b.accs.length ≤ 12 ∧ b.prods.length ≤ 30 ∧ b.jour.length ≤ 60
  · obtain ⟨s1, s2, s3⟩ := hs
    go_upto_region 3 with (fail)
    generalize w.alloc (.cells cs.toArray 63) = W at *
    have r17 := (HC.out.cell 17).trans g1
    have r19 := (HC.out.cell 19).trans g3
    clear g1 g2 g3
    have R17 := Aside0.mk r17
    have R19 := Aside0.mk r19
    clear r17 r19 HC
    go_wp2
    go_loopw [3] (fun i wr => ∃ x : Nat, x ≤ b.prods.length ∧ i = .int .i64 x ∧ Aside0 (∀ p ∈ b.prods.take x, p.cr.tiers.length ≤ 20 ∧ p.db.tiers.length ≤ 20) ∧ Aside0 (Below W.heap.size W wr)) (fun i _ => b.prods.length - (intOf i).toNat)
    case atStart => exact ⟨0, by omega, rfl, ⟨fun p hp => by cases hp⟩, ⟨Below.refl _ _⟩⟩
    case round =>
      obtain ⟨x, k1, rfl, HT, HW⟩ := hrel
      have f17 := keepc HW.out R17.out
      by_cases hlt : x < b.prods.length
      · obtain ⟨ad, ce, hA, hcl, hcK, hcR⟩ := row_at HP.out zPrd (x : Int) (by omega) (by omega)
        subst hA
        rw [get_nat _ _ _ hlt] at hcK
        obtain ⟨TA, tc, TB, td, p7, p12⟩ := prd_tiers hcK
        have CR := (hcR.below (bstep HB0.out (bstep HB.out HW.out)))
        have y7 : wr.cell? ⟨(ad.add (x * 19)).block, (ad.add (x * 19)).off + 7, none⟩ = some (.slice TA b.prods[x].cr.tiers.length tc) := CR.at_ 7 (by omega) p7
        have y12 : wr.cell? ⟨(ad.add (x * 19)).block, (ad.add (x * 19)).off + 12, none⟩ = some (.slice TB b.prods[x].db.tiers.length td) := CR.at_ 12 (by omega) p12
        have HN := Aside0.mk (all_snoc hlt HT.out (p := fun p : Prd => p.cr.tiers.length ≤ 20 ∧ p.db.tiers.length ≤ 20))
        clear hcl hcK hcR p7 p12 CR HT
        generalize b.prods[x] = px at *
        by_cases hs : px.cr.tiers.length ≤ 20 ∧ px.db.tiers.length ≤ 20
        · obtain ⟨t1, t2⟩ := hs
          have HN2 := Aside0.mk (HN.out ⟨t1, t2⟩)
          go_wp2
          go_roundw
          case rel => exact ⟨x + 1, by omega, by go_num, HN2, HW⟩
          case measure => simp [intOf]; omega
        · have hc : (decide ((20 : Int) < px.cr.tiers.length) || decide ((20 : Int) < px.db.tiers.length)) = true := by
            rw [Bool.or_eq_true, decide_eq_true_iff, decide_eq_true_iff]; omega
          go_wp2
          all_goals
            go_ret
            exact ⟨fewRes_false b, bstep HB.out HW.out⟩
      · have hxl : b.prods.take x = b.prods := List.take_of_length_le (by omega)
        have hfew : FewT b.prods := by have h := HT.out; rw [hxl] at h; exact h
        have FEW := Aside0.mk hfew
        have W19 := Aside0.mk (keepc HW.out R19.out)
        have HW1 := Aside0.mk (bstep HB.out HW.out)
        clear hfew HT R17 R19 HW HB hxl
        go_wp2
        clear f17 hlt k1
        generalize hWe : wr = W1 at *
        clear hWe
        go_loopw [4] (fun i wr => ∃ x : Nat, x ≤ b.jour.length ∧ i = .int .i64 x ∧ Aside0 (∀ p ∈ b.jour.take x, p.legs.length ≤ 20) ∧ Aside0 (Below W1.heap.size W1 wr)) (fun i _ => b.jour.length - (intOf i).toNat)
        case atStart => exact ⟨0, by omega, rfl, ⟨fun p hp => by cases hp⟩, ⟨Below.refl _ _⟩⟩
        case round =>
          obtain ⟨x, k1, rfl, HT, HW⟩ := hrel
          have f19 := keepc HW.out W19.out
          by_cases hlt : x < b.jour.length
          · obtain ⟨ad, ce, hA, hcl, hcK, hcR⟩ := row_at HJ.out zEnt (x : Int) (by omega) (by omega)
            subst hA
            rw [get_nat _ _ _ hlt] at hcK
            obtain ⟨TA, tc, -, -, -, p8, -⟩ := ent_get hcK
            have CR := (hcR.below (bstep HB0.out (bstep HW1.out HW.out)))
            have y8 : wr.cell? ⟨(ad.add (x * 10)).block, (ad.add (x * 10)).off + 8, none⟩ = some (.slice TA b.jour[x].legs.length tc) := CR.at_ 8 (by omega) p8
            have HN := Aside0.mk (all_snoc hlt HT.out (p := fun p : Ent => p.legs.length ≤ 20))
            clear hcl hcK hcR p8 CR HT
            generalize b.jour[x] = px at *
            by_cases hs : px.legs.length ≤ 20
            · have HN2 := Aside0.mk (HN.out hs)
              go_wp2
              go_roundw
              case rel => exact ⟨x + 1, by omega, by go_num, HN2, HW⟩
              case measure => simp [intOf]; omega
            · go_wp2
              go_ret
              exact ⟨fewRes_false b, bstep HW1.out HW.out⟩
          · have hxl : b.jour.take x = b.jour := List.take_of_length_le (by omega)
            have hle : ∀ e ∈ b.jour, e.legs.length ≤ 20 := by have h := HT.out; rw [hxl] at h; exact h
            have LE := Aside0.mk hle
            clear hle HT hxl
            go_wp2
            go_ret
            exact ⟨⟨_, rfl, fun _ => ⟨s1, s2, s3, FEW.out, LE.out⟩⟩, bstep HW1.out HW.out⟩
  · go_wp2
    all_goals
      go_ret
      exact ⟨fewRes_false b, HB.out⟩
end Go.Proofs.Ytlmabdiodopidaa.G
end
section
set_option linter.unusedVariables false
set_option linter.unusedSimpArgs false
namespace Go.Proofs.Ytlmabdiodopidaa.P
open Go.Proofs.Ytlmabdiodopidaa.G
attribute [local go_sem high] un_not64 un_noti run_add64
open Go.RowKit Go.Proofs.YtlmabdiodopidaaW.PrintWords Go.Proofs.YtlmabdiodopidaaW.PrintLast Go.Proofs.YtlmabdiodopidaaW.PrintMore
attribute [local go_sem] max2_int min2_int max_two min_two max_three min_three max_four min_four   -- for this text's walks alone
set_option linter.unusedVariables false
set_option linter.unusedSimpArgs false

theorem eqA66 (d : Nat) (w : World) (x0 y0 : Int) (x1 y1 : Int) (x2 y2 : Int) (x3 y3 : Int) (x4 y4 : Int) (x5 y5 : Int) (x6 y6 : Int) :
    (Op.equalIn (d + 3) 66 (.agg #[.int .i64 x0, .int .i64 x1, .int .i64 x2, .int .i64 x3, .int .u64 x4, .int .i64 x5, .int .u64 x6]) (.agg #[.int .i64 y0, .int .i64 y1, .int .i64 y2, .int .i64 y3, .int .u64 y4, .int .i64 y5, .int .u64 y6])).run Try.prog w = .ok (x0 == y0 && (x1 == y1 && (x2 == y2 && ((x3 == y3 && (x4 == y4)) && ((x5 == y5 && (x6 == y6))))))) w := by
  refine eqA_of Try.underlying66 (by kernel_rfl) ?_
  refine eqf_cons (by rfl) (by go_simp; rfl) (by go_simp; rfl) (by go_simp) ?_
  refine eqf_cons (by rfl) (by go_simp; rfl) (by go_simp; rfl) (by go_simp) ?_
  refine eqf_cons (by rfl) (by go_simp; rfl) (by go_simp; rfl) (by go_simp) ?_
  refine eqf_cons (by rfl) (by go_simp) (by go_simp) (eqA35 (d + 0) w _ _ _ _) ?_
  exact eqf_last (by rfl) (by go_simp) (by go_simp) (eqA35 (d + 0) w _ _ _ _)
end Go.Proofs.Ytlmabdiodopidaa.P
end
