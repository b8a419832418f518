/- The types' openings: what the arguments hold, by their types. -/
import Derived.Test.YtlmabdiodopidaaPx0
import Derived.Test.YtlmabdiodopidaaOpen
namespace Go.Proofs.Ytlmabdiodopidaa.G
open Go.RowKit Go.Proofs.YtlmabdiodopidaaW.PrintWords Go.Proofs.YtlmabdiodopidaaW.PrintLast Go.Proofs.YtlmabdiodopidaaW.PrintMore Go.Proofs.Ytlmabdiodopidaa.P
set_option maxRecDepth 100000
def wf50 (x : S50) : Prop := okN .i64 x.f0 ∧ okN .i64 x.f1
theorem op50 : Opens Try.prog 50 k50 wf50 := opens_struct (d := (Kd.pair (Kd.int .i64) (Kd.int .i64))) (wf := wfp (okN .i64) (okN .i64)) (fun x : S50 => (x.f0, x.f1)) (fun p => ⟨p.1, p.2⟩) (fun _ => rfl) Try.underlying50 (show Try.prog.cellsOf 50 = 2 by kernel_rfl) (opens_cons 0 0 1 3 (Kd.int .i64) (Kd.int .i64) (okN .i64) (okN .i64) rfl (show Try.prog.cellsOf 3 = 1 by kernel_rfl) rfl (opens_int Try.underlying3) (opens_last 1 1 3 (Kd.int .i64) (okN .i64) rfl (show Try.prog.cellsOf 3 = 1 by kernel_rfl) (opens_int Try.underlying3)))
def wf43 (x : S43) : Prop := okN .i64 x.f0 ∧ okN .i64 x.f1
theorem op43 : Opens Try.prog 43 k43 wf43 := opens_struct (d := (Kd.pair (Kd.int .i64) (Kd.int .i64))) (wf := wfp (okN .i64) (okN .i64)) (fun x : S43 => (x.f0, x.f1)) (fun p => ⟨p.1, p.2⟩) (fun _ => rfl) Try.underlying43 (show Try.prog.cellsOf 43 = 2 by kernel_rfl) (opens_cons 0 0 1 3 (Kd.int .i64) (Kd.int .i64) (okN .i64) (okN .i64) rfl (show Try.prog.cellsOf 3 = 1 by kernel_rfl) rfl (opens_int Try.underlying3) (opens_last 1 1 3 (Kd.int .i64) (okN .i64) rfl (show Try.prog.cellsOf 3 = 1 by kernel_rfl) (opens_int Try.underlying3)))
structure S40 where
  f0 : Bool
  f1 : Int
  f2 : Int
def k40 : Kd S40 := Kd.iso (Kd.pair Kd.bool (Kd.pair (Kd.int .i64) (Kd.int .i64))) (fun x : S40 => (x.f0, (x.f1, x.f2)))
theorem k40_open {w : World} {x : S40} {cs : List Value} (h : k40.K w x cs) : cs = [.bool x.f0, .int .i64 x.f1, .int .i64 x.f2] := by
  obtain ⟨_, _, rfl, rfl, _, _, rfl, rfl, rfl⟩ := h
  exact rfl
def wf40 (x : S40) : Prop := True ∧ okN .i64 x.f1 ∧ okN .i64 x.f2
theorem op40 : Opens Try.prog 40 k40 wf40 := opens_struct (d := (Kd.pair Kd.bool (Kd.pair (Kd.int .i64) (Kd.int .i64)))) (wf := wfp ((fun _ => True)) (wfp (okN .i64) (okN .i64))) (fun x : S40 => (x.f0, (x.f1, x.f2))) (fun p => ⟨p.1, p.2.1, p.2.2⟩) (fun _ => rfl) Try.underlying40 (show Try.prog.cellsOf 40 = 3 by kernel_rfl) (opens_cons 0 0 1 4 Kd.bool (Kd.pair (Kd.int .i64) (Kd.int .i64)) ((fun _ => True)) (wfp (okN .i64) (okN .i64)) rfl (show Try.prog.cellsOf 4 = 1 by kernel_rfl) rfl (opens_bool Try.underlying4) (opens_cons 1 1 2 3 (Kd.int .i64) (Kd.int .i64) (okN .i64) (okN .i64) rfl (show Try.prog.cellsOf 3 = 1 by kernel_rfl) rfl (opens_int Try.underlying3) (opens_last 2 2 3 (Kd.int .i64) (okN .i64) rfl (show Try.prog.cellsOf 3 = 1 by kernel_rfl) (opens_int Try.underlying3))))
end Go.Proofs.Ytlmabdiodopidaa.G
