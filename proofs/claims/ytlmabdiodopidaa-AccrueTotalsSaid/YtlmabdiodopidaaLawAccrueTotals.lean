/- The law AccrueTotals: whatever its arguments, it answers true, and each argument reads behind the call as it did before. No condition but those of the given row. -/
import Derived.Test.YtlmabdiodopidaaRows
import Derived.WalkKit
import Derived.ProofKit
import Derived.OpenShut
import Derived.ShutString
import Derived.ChangeOld
import Derived.Below
import Derived.SizedLaws
import Derived.Carry
import Derived.Test.YtlmabdiodopidaaJ13
namespace Go.Proofs.Ytlmabdiodopidaa.accrueTotals
open Go.ChangeShapes Go.WideShapes Go.ChangeAt Go.RowKit Go.Proofs.Ytlmabdiodopidaa.G Go.Proofs.Ytlmabdiodopidaa.P Go.Proofs.YtlmabdiodopidaaW.PrintWords Go.Proofs.YtlmabdiodopidaaW.PrintLast Go.Proofs.YtlmabdiodopidaaW.PrintMore
open Go.ChangeMaps (open_string shut_string)
set_option linter.unusedVariables false
theorem own : ownKnob Try.prog.godebug = none := by kernel_rfl
theorem laidOut : laidOutB Try.prog = true := by kernel_rfl
set_option maxRecDepth 100000 in
theorem lifted (os : Os) (started : os.Started) (H : Type) (enc : TypeId × Value → H) :
    ReturnsInHanded {} Try.checked os 12 .any (Rows.accrueTotalsSpec.pre6 enc Try.prog Try.f12 Rows.accrueTotalsRow.domain false) (Rows.accrueTotalsSpec.post enc Try.prog Try.f12 false true false false) := by
  refine returnsInHanded_of_change_sized (C := Try.checked) own started (by kernel_rfl) Try.func12
    (ChangeSpec.witness6 (enc := enc) (C := Try.checked) false ⟨#[], #[.slice none 0 0], []⟩ 12 (by kernel_rfl) (by kernel_rfl) (by kernel_rfl) (by kernel_rfl)) ?_
  intro W base args ds gs before hval0 hW hcnd hsz0 _
  have hval : ∀ (j : Nat) t v, Try.f12.params[j]? = some t → args[j]? = some v → Value.okWide Try.prog W .any base t v := hval0
  have hW' := hW
  obtain ⟨p, q, hA0, hV, rfl, hfz, hnd⟩ := hW
  have hA : DataW.TrodAll enc Try.prog W 0 (fun _ => true) true Try.f12.params.toList args.toList ds p := hA0
  rw [Try.params12] at hA hval
  obtain ⟨v0, vs0, d0, ds0, p0, q0, hargs, rfl, rfl, h0, r0⟩ := trodAll_cons hA
  obtain ⟨rfl, rfl, rfl⟩ := trodAll_nil r0
  obtain rfl : args = #[v0] := by cases args; simp_all
  obtain ⟨rfl, rfl⟩ := trodVars_none hV
  obtain ⟨A0, len0, c0, rfl⟩ := okWide_slice Try.underlying70 (hval 0 70 v0 rfl rfl)
  have k0 := h0
  have lt0 : ∀ x ∈ p0, x.block < W.heap.size := by obtain ⟨m, hm⟩ := k0; exact DataW.trod_lt m _ _ _ hm
  obtain ⟨l0, rfl, C0, hc0, wf0⟩ := arg_slice (opens_slice 66 Try.underlying70 (show Try.prog.cellsOf 66 = 7 by kernel_rfl) op66) h0
  clear hA0 hval0 hsz0
  have hw : ∀ x ∈ l0, okW x.f3.f0 x.f3.f1 ∧ okW x.f4.f0 x.f4.f1 := by
    intro x hx
    obtain ⟨-, -, -, ⟨a1, a2⟩, ⟨b1, b2⟩⟩ := wf0.2 x hx
    exact ⟨⟨okI_of a1, okU_of a2⟩, ⟨okI_of b1, okU_of b2⟩⟩
  obtain ⟨r0, r1, r2, r3, er, t1, t2⟩ := tot_both l0 0 0 0 0 (by decide) (by decide) hw
  refine (lawtot_calls A0 c0 l0 r0 r1 r2 r3 er W W (Below.refl _ _) C0 t1 t2).mono fun e W' ⟨he, bel⟩ => ?_
  subst he
  exact ⟨_, rfl, _, _, _, [], _, [], hW', trodAll_mk1 (shut_bool Try.underlying4 _), (trodAll_cons_mk (Below.trod laidOut (by kernel_rfl) (of_decide_eq_true (by kernel_rfl)) k0 bel lt0) trodAll_mk0), rfl, bel.frame _, fun h => by cases h⟩
theorem over : Rows.accrueTotalsRow.holds Try.pinned (OpenSpec.ofChange Rows.accrueTotalsSpec) :=
  OpenClaim.holds_of_wide 12 Try.f12 rfl rfl rfl rfl rfl rfl rfl ⟨rfl, rfl, rfl, rfl, rfl⟩ rfl rfl rfl rfl rfl (by kernel_rfl) Try.func12 (by kernel_rfl)
    (of_decide_eq_true (by kernel_rfl)) (by unfold Func.isWrapper; first | (rw [if_pos (by decide +kernel)]; kernel_rfl) | (rw [if_neg (by decide +kernel)]; exact ⟨rfl, rfl⟩))
    (fun os started H enc _ => lifted os started H enc)
theorem proved : Rows.AccrueTotalsSaid := over
end Go.Proofs.Ytlmabdiodopidaa.accrueTotals
namespace Go.Proofs.Ytlmabdiodopidaa
/-- The row, under a short name, for the claim. -/
theorem accrueTotals_holds : Rows.AccrueTotalsSaid := accrueTotals.proved
#print axioms accrueTotals_holds
end Go.Proofs.Ytlmabdiodopidaa

