/- Texts of this seat, joined: Px0, Open, Types, Bk, Leaf, Tier, Row, Acct, Cat, Qx0, Qx1, Qx2, Qx3, Smp. Lemmas for the claim's theorem. -/
import Derived.Test.YtlmabdiodopidaaProg
import Derived.Below
import Derived.Deep.Draws
import Derived.Deep.AppendLies
import Derived.Maps.AppendAt
import Derived.OwnWalk
import Derived.Laws.BytesArg
import Derived.Laws.MakeOwn
import Derived.Laws.OwnMore
import Derived.Deep.OwnRows
import Derived.Tactics
import Derived.Lib.ConvBytes
import Derived.Laws.Slices
import Derived.WalkKit
import Derived.KernelRfl
import Derived.RowKit3
import Derived.Deep.LoopGhost
import Derived.Deep.QuietTactic
import Derived.BigQuiet
import Derived.WideLaws
import Derived.Deep.DeepCutAuto
import Derived.Deep.CutBlock
import Derived.Deep.RegionHeld3
import Derived.Laws.Rows
import Derived.Lib.AppendStr
import Derived.ArgAppend
import Derived.Laws.IdiomCopy
import Derived.OrdersHeld
import Derived.Laws.BitsLemmas
import Derived.RowKit
import Derived.Deep.Slices
import Derived.ChangeArms
import Derived.ChangeShapes
import Derived.WideShapes
import Derived.Lib.Mul64
import Derived.Laws.Bits64b
import Derived.Outline
import Derived.Deep.MidRow
import Derived.Deep.WholeRow
import Derived.Test.YtlmabdiodopidaaJ4
section
set_option linter.unusedVariables false
set_option linter.unusedSimpArgs false
namespace Go.Proofs.Ytlmabdiodopidaa.P
open Go.Proofs.Ytlmabdiodopidaa.G
attribute [local go_sem high] un_not64 un_noti run_add64
open Go.RowKit Go.Proofs.YtlmabdiodopidaaW.PrintWords Go.Proofs.YtlmabdiodopidaaW.PrintLast Go.Proofs.YtlmabdiodopidaaW.PrintMore
attribute [local go_sem] max2_int min2_int max_two min_two max_three min_three max_four min_four   -- for this text's walks alone
set_option linter.unusedVariables false
set_option linter.unusedSimpArgs false



def errW : Option Int → Value
  | none => .nilIface
  | some c => .iface 0 (.int .i64 c)
theorem errW_none : errW none = .nilIface := rfl
theorem errW_some (c : Int) : errW (some c) = .iface 0 (.int .i64 c) := rfl

theorem info43 : (Try.prog.info? 43).map (fun i => (i.zero, i.size, i.bytes)) = some (some (.agg #[(.int .i64 0), (.int .i64 0)]), 2, 16) := by kernel_rfl
-- the values' own types
/-! #### struct type 35 -/
structure S35 where
  f0 : Int
  f1 : Int
def z35 : S35 := ⟨(0 : Int), (0 : Int)⟩
def k35 : Kd S35 := Kd.iso (Kd.pair (Kd.int .i64) (Kd.int .u64)) (fun x : S35 => (x.f0, x.f1))
theorem k35_open {w : World} {x : S35} {cs : List Value} (h : k35.K w x cs) : cs = [.int .i64 x.f0, .int .u64 x.f1] := by
  obtain ⟨_, _, rfl, rfl, rfl⟩ := h
  exact rfl
theorem k35_mkM (w : World) (base : Nat) (ok : Nat → Prop) (x : S35)  : k35.M w base ok x [.int .i64 x.f0, .int .u64 x.f1] := ⟨[.int .i64 x.f0], [.int .u64 x.f1], rfl, rfl, rfl⟩
/-! #### struct type 66 -/
structure S66 where
  f0 : Int
  f1 : Int
  f2 : Int
  f3 : S35
  f4 : S35
def z66 : S66 := ⟨(0 : Int), (0 : Int), (0 : Int), z35, z35⟩
def k66 : Kd S66 := Kd.iso (Kd.pair (Kd.int .i64) (Kd.pair (Kd.int .i64) (Kd.pair (Kd.int .i64) (Kd.pair k35 k35)))) (fun x : S66 => (x.f0, x.f1, x.f2, x.f3, x.f4))
theorem k66_open {w : World} {x : S66} {cs : List Value} (h : k66.K w x cs) : cs = [.int .i64 x.f0, .int .i64 x.f1, .int .i64 x.f2, .int .i64 x.f3.f0, .int .u64 x.f3.f1, .int .i64 x.f4.f0, .int .u64 x.f4.f1] := by
  obtain ⟨_, _, rfl, rfl, ⟨_, _, rfl, rfl, ⟨_, _, rfl, rfl, ⟨_, _, rfl, s3, s5⟩⟩⟩⟩ := h
  obtain rfl := k35_open s3
  obtain rfl := k35_open s5
  exact rfl
theorem k66_mkM (w : World) (base : Nat) (ok : Nat → Prop) (x : S66)  : k66.M w base ok x [.int .i64 x.f0, .int .i64 x.f1, .int .i64 x.f2, .int .i64 x.f3.f0, .int .u64 x.f3.f1, .int .i64 x.f4.f0, .int .u64 x.f4.f1] := ⟨[.int .i64 x.f0], [.int .i64 x.f1, .int .i64 x.f2, .int .i64 x.f3.f0, .int .u64 x.f3.f1, .int .i64 x.f4.f0, .int .u64 x.f4.f1], rfl, rfl, ⟨[.int .i64 x.f1], [.int .i64 x.f2, .int .i64 x.f3.f0, .int .u64 x.f3.f1, .int .i64 x.f4.f0, .int .u64 x.f4.f1], rfl, rfl, ⟨[.int .i64 x.f2], [.int .i64 x.f3.f0, .int .u64 x.f3.f1, .int .i64 x.f4.f0, .int .u64 x.f4.f1], rfl, rfl, ⟨[.int .i64 x.f3.f0, .int .u64 x.f3.f1], [.int .i64 x.f4.f0, .int .u64 x.f4.f1], rfl, (k35_mkM w base ok x.f3 ), (k35_mkM w base ok x.f4 )⟩⟩⟩⟩
def rd_T66 (xs : List S66) (i : Int) : S66 := xs.getD i.toNat z66
theorem at_T66 {w : World} {A : Option Addr} {n : Nat} {xs : List S66} (h : Kd.C k66 w A n xs) (i : Int) (h0 : 0 ≤ i) (h1 : i < n) : ∃ ad , A = some ad ∧ w.cell? (ad.add (i.toNat * 7)) = some (.int .i64 (rd_T66 xs i).f0) ∧ w.cell? ⟨(ad.add (i.toNat * 7)).block, (ad.add (i.toNat * 7)).off + 1, none⟩ = some (.int .i64 (rd_T66 xs i).f1) ∧ w.cell? ⟨(ad.add (i.toNat * 7)).block, (ad.add (i.toNat * 7)).off + 2, none⟩ = some (.int .i64 (rd_T66 xs i).f2) ∧ w.cell? ⟨(ad.add (i.toNat * 7)).block, (ad.add (i.toNat * 7)).off + 3, none⟩ = some (.int .i64 (rd_T66 xs i).f3.f0) ∧ w.cell? ⟨(ad.add (i.toNat * 7)).block, (ad.add (i.toNat * 7)).off + 4, none⟩ = some (.int .u64 (rd_T66 xs i).f3.f1) ∧ w.cell? ⟨(ad.add (i.toNat * 7)).block, (ad.add (i.toNat * 7)).off + 5, none⟩ = some (.int .i64 (rd_T66 xs i).f4.f0) ∧ w.cell? ⟨(ad.add (i.toNat * 7)).block, (ad.add (i.toNat * 7)).off + 6, none⟩ = some (.int .u64 (rd_T66 xs i).f4.f1) := by
  obtain ⟨ad, c, e, _, hK, hc0⟩ := Kd.C_get h z66 i h0 h1
  have hc : ∀ j u, c[j]? = some u → w.cell? (ad.add (i.toNat * 7 + j)) = some u := hc0
  obtain rfl := k66_open hK
  exact ⟨ad, e, hc 0 _ rfl, by rw [← add_field _ _ 1 (by omega)]; exact hc 1 _ rfl, by rw [← add_field _ _ 2 (by omega)]; exact hc 2 _ rfl, by rw [← add_field _ _ 3 (by omega)]; exact hc 3 _ rfl, by rw [← add_field _ _ 4 (by omega)]; exact hc 4 _ rfl, by rw [← add_field _ _ 5 (by omega)]; exact hc 5 _ rfl, by rw [← add_field _ _ 6 (by omega)]; exact hc 6 _ rfl⟩

/-! #### struct type 50 -/
structure S50 where
  f0 : Int
  f1 : Int
def z50 : S50 := ⟨(0 : Int), (0 : Int)⟩
def k50 : Kd S50 := Kd.iso (Kd.pair (Kd.int .i64) (Kd.int .i64)) (fun x : S50 => (x.f0, x.f1))
theorem k50_open {w : World} {x : S50} {cs : List Value} (h : k50.K w x cs) : cs = [.int .i64 x.f0, .int .i64 x.f1] := by
  obtain ⟨_, _, rfl, rfl, rfl⟩ := h
  exact rfl
theorem k50_mkM (w : World) (base : Nat) (ok : Nat → Prop) (x : S50)  : k50.M w base ok x [.int .i64 x.f0, .int .i64 x.f1] := ⟨[.int .i64 x.f0], [.int .i64 x.f1], rfl, rfl, rfl⟩
def rd_T50 (xs : List S50) (i : Int) : S50 := xs.getD i.toNat z50
theorem at_T50 {w : World} {A : Option Addr} {n : Nat} {xs : List S50} (h : Kd.C k50 w A n xs) (i : Int) (h0 : 0 ≤ i) (h1 : i < n) : ∃ ad , A = some ad ∧ w.cell? (ad.add (i.toNat * 2)) = some (.int .i64 (rd_T50 xs i).f0) ∧ w.cell? ⟨(ad.add (i.toNat * 2)).block, (ad.add (i.toNat * 2)).off + 1, none⟩ = some (.int .i64 (rd_T50 xs i).f1) := by
  obtain ⟨ad, c, e, _, hK, hc0⟩ := Kd.C_get h z50 i h0 h1
  have hc : ∀ j u, c[j]? = some u → w.cell? (ad.add (i.toNat * 2 + j)) = some u := hc0
  obtain rfl := k50_open hK
  exact ⟨ad, e, hc 0 _ rfl, by rw [← add_field _ _ 1 (by omega)]; exact hc 1 _ rfl⟩

/-! #### struct type 43 -/
structure S43 where
  f0 : Int
  f1 : Int
def z43 : S43 := ⟨(0 : Int), (0 : Int)⟩
def k43 : Kd S43 := Kd.iso (Kd.pair (Kd.int .i64) (Kd.int .i64)) (fun x : S43 => (x.f0, x.f1))
theorem k43_open {w : World} {x : S43} {cs : List Value} (h : k43.K w x cs) : cs = [.int .i64 x.f0, .int .i64 x.f1] := by
  obtain ⟨_, _, rfl, rfl, rfl⟩ := h
  exact rfl
theorem k43_mkM (w : World) (base : Nat) (ok : Nat → Prop) (x : S43)  : k43.M w base ok x [.int .i64 x.f0, .int .i64 x.f1] := ⟨[.int .i64 x.f0], [.int .i64 x.f1], rfl, rfl, rfl⟩
def rd_T43 (xs : List S43) (i : Int) : S43 := xs.getD i.toNat z43
theorem at_T43 {w : World} {A : Option Addr} {n : Nat} {xs : List S43} (h : Kd.C k43 w A n xs) (i : Int) (h0 : 0 ≤ i) (h1 : i < n) : ∃ ad , A = some ad ∧ w.cell? (ad.add (i.toNat * 2)) = some (.int .i64 (rd_T43 xs i).f0) ∧ w.cell? ⟨(ad.add (i.toNat * 2)).block, (ad.add (i.toNat * 2)).off + 1, none⟩ = some (.int .i64 (rd_T43 xs i).f1) := by
  obtain ⟨ad, c, e, _, hK, hc0⟩ := Kd.C_get h z43 i h0 h1
  have hc : ∀ j u, c[j]? = some u → w.cell? (ad.add (i.toNat * 2 + j)) = some u := hc0
  obtain rfl := k43_open hK
  exact ⟨ad, e, hc 0 _ rfl, by rw [← add_field _ _ 1 (by omega)]; exact hc 1 _ rfl⟩

end Go.Proofs.Ytlmabdiodopidaa.P
namespace Go.Proofs.Ytlmabdiodopidaa.P
open Go.Proofs.Ytlmabdiodopidaa.G
attribute [local go_sem high] un_not64 un_noti run_add64
open Go.RowKit Go.Proofs.YtlmabdiodopidaaW.PrintWords Go.Proofs.YtlmabdiodopidaaW.PrintLast Go.Proofs.YtlmabdiodopidaaW.PrintMore
attribute [local go_sem] max2_int min2_int max_two min_two max_three min_three max_four min_four   -- for this text's walks alone
set_option linter.unusedVariables false
set_option linter.unusedSimpArgs false

theorem eqA35 (d : Nat) (w : World) (x0 y0 : Int) (x1 y1 : Int) :
    (Op.equalIn (d + 2) 35 (.agg #[.int .i64 x0, .int .u64 x1]) (.agg #[.int .i64 y0, .int .u64 y1])).run Try.prog w = .ok (x0 == y0 && (x1 == y1)) w := by
  refine eqA_of Try.underlying35 (by kernel_rfl) ?_
  refine eqf_cons (by rfl) (by go_simp; rfl) (by go_simp; rfl) (by go_simp) ?_
  exact eqf_last (by rfl) (by go_simp; rfl) (by go_simp; rfl) (by go_simp)
end Go.Proofs.Ytlmabdiodopidaa.P
namespace Go.Proofs.Ytlmabdiodopidaa.P
open Go.Proofs.Ytlmabdiodopidaa.G
attribute [local go_sem high] un_not64 un_noti run_add64
open Go.RowKit Go.Proofs.YtlmabdiodopidaaW.PrintWords Go.Proofs.YtlmabdiodopidaaW.PrintLast Go.Proofs.YtlmabdiodopidaaW.PrintMore
attribute [local go_sem] max2_int min2_int max_two min_two max_three min_three max_four min_four   -- for this text's walks alone
set_option linter.unusedVariables false
set_option linter.unusedSimpArgs false

theorem eqA43 (d : Nat) (w : World) (x0 y0 : Int) (x1 y1 : Int) :
    (Op.equalIn (d + 2) 43 (.agg #[.int .i64 x0, .int .i64 x1]) (.agg #[.int .i64 y0, .int .i64 y1])).run Try.prog w = .ok (x0 == y0 && (x1 == y1)) w := by
  refine eqA_of Try.underlying43 (by kernel_rfl) ?_
  refine eqf_cons (by rfl) (by go_simp; rfl) (by go_simp; rfl) (by go_simp) ?_
  exact eqf_last (by rfl) (by go_simp; rfl) (by go_simp; rfl) (by go_simp)
end Go.Proofs.Ytlmabdiodopidaa.P
namespace Go.Proofs.Ytlmabdiodopidaa.P
open Go.Proofs.Ytlmabdiodopidaa.G
attribute [local go_sem high] un_not64 un_noti run_add64
open Go.RowKit Go.Proofs.YtlmabdiodopidaaW.PrintWords Go.Proofs.YtlmabdiodopidaaW.PrintLast Go.Proofs.YtlmabdiodopidaaW.PrintMore
attribute [local go_sem] max2_int min2_int max_two min_two max_three min_three max_four min_four   -- for this text's walks alone
set_option linter.unusedVariables false
set_option linter.unusedSimpArgs false

theorem eqA113 (d : Nat) (w : World) (x0 y0 : Int) (x1 y1 : Int) :
    (Op.equalIn (d + 2) 113 (.agg #[.int .u64 x0, .int .u64 x1]) (.agg #[.int .u64 y0, .int .u64 y1])).run Try.prog w = .ok (x0 == y0 && (x1 == y1)) w := by
  refine eqA_of Try.underlying113 (by kernel_rfl) ?_
  refine eqf_cons (by rfl) (by go_simp; rfl) (by go_simp; rfl) (by go_simp) ?_
  exact eqf_last (by rfl) (by go_simp; rfl) (by go_simp; rfl) (by go_simp)
end Go.Proofs.Ytlmabdiodopidaa.P
end
section
set_option linter.unusedVariables false
set_option linter.unusedSimpArgs false
namespace Go.Proofs.Ytlmabdiodopidaa.G
open Go.RowKit Go.ChangeShapes Go.WideShapes Go.Deep Go.Proofs.YtlmabdiodopidaaW.PrintWords Go.Proofs.YtlmabdiodopidaaW.PrintLast Go.Proofs.YtlmabdiodopidaaW.PrintMore

/-- Data of type t reads as kind d, and is well formed. -/
def Opens {α : Type} (P : Program) (t : TypeId) (d : Kd α) (wf : α → Prop) : Prop :=
  ∀ (H : Type) (enc : TypeId × Value → H) (w : World) (base : Nat) (spare : Nat → Bool) (held : Bool) (fuel : Nat) (cs : List Value) (x : DataW H × List MemPlace), DataW.trod enc P w base spare held fuel t cs = some x → ∃ a, d.K w a cs ∧ wf a
/-- a number of its kind -/
def okN (k : IntKind) (n : Int) : Prop := (Lit.int k n).wf = true
theorem opens_int {P : Program} {t : TypeId} {k : IntKind} (ht : P.underlying t = some (.int k)) : Opens P t (Kd.int k) (okN k) := by
  intro H enc w base spare held fuel cs x h
  obtain ⟨n, rfl, _, hw⟩ := DataW.trod_int ht h
  exact ⟨n, rfl, hw⟩
theorem opens_bool {P : Program} {t : TypeId} (ht : P.underlying t = some .bool) : Opens P t Kd.bool (fun _ => True) := by
  intro H enc w base spare held fuel cs x h
  obtain ⟨n, rfl, _⟩ := DataW.trod_bool ht h
  exact ⟨n, rfl, trivial⟩
theorem opens_string {P : Program} {t : TypeId} (ht : P.underlying t = some .string) : Opens P t Kd.string (fun s => s.size ≤ 9223372036854775807) := by
  intro H enc w base spare held fuel cs x h
  obtain ⟨n, rfl, _, hw⟩ := DataW.trod_string ht h
  exact ⟨n, rfl, by unfold maxLen at hw; exact hw⟩
/-- what is told of a list -/
def okL {α : Type} (wf : α → Prop) (l : List α) : Prop := l.length ≤ 9223372036854775807 ∧ ∀ x ∈ l, wf x
theorem list_choice {α : Type} {P : Nat → α → Prop} : ∀ n : Nat, (∀ i, i < n → ∃ x, P i x) → ∃ l : List α, l.length = n ∧ ∀ i x, l[i]? = some x → P i x
  | 0, _ => ⟨[], rfl, by simp⟩
  | n + 1, h => by
    obtain ⟨l, hl, hp⟩ := list_choice n (fun i hi => h i (by omega))
    obtain ⟨x, hx⟩ := h n (by omega)
    refine ⟨l ++ [x], by simp [hl], fun i y hy => ?_⟩
    rcases Nat.lt_trichotomy i l.length with h1 | h1 | h1
    · rw [List.getElem?_append_left h1] at hy
      exact hp i y hy
    · subst h1
      rw [List.getElem?_append_right (Nat.le_refl _), Nat.sub_self] at hy
      obtain rfl : x = y := by simpa using hy
      rw [hl]; exact hx
    · rw [List.getElem?_append_right (by omega)] at hy
      obtain ⟨m, hm⟩ : ∃ m, i - l.length = m + 1 := ⟨i - l.length - 1, by omega⟩
      rw [hm] at hy
      simp at hy
theorem opens_slice {α : Type} {P : Program} {t e : TypeId} {d : Kd α} {wf : α → Prop} (e' : Nat) (ht : P.underlying t = some (.slice e)) (hc : P.cellsOf e = d.sz) (he : Opens P e d wf) : Opens P t (Kd.slice e' d) (okL wf) := by
  intro H enc w base spare held fuel cs x h
  rcases open_slice ht h with ⟨rfl, _⟩ | ⟨a, len, cap, m, n, D, Pl, rfl, _, hl, hm, hmm, _, hi⟩
  · exact ⟨[], ⟨none, 0, rfl, Nat.le_refl _, rfl, by simp, fun h0 => absurd h0 (by simp)⟩, by simp [okL]⟩
  · have hlm : len ≤ m := by rw [hmm]; split <;> omega
    unfold maxLen at hm
    obtain ⟨l, hll, hp⟩ := list_choice (P := fun i x => ∃ cs', w.cells? base (a.add (i * P.cellsOf e)) (P.cellsOf e) = some cs' ∧ d.K w x cs' ∧ wf x) len (fun i h0 => by
      obtain ⟨cs', h1, h2⟩ := hi i (by omega)
      obtain ⟨x, h3, h4⟩ := he _ _ _ _ _ _ _ _ _ h2
      exact ⟨x, cs', h1, h3, h4⟩)
    refine ⟨l, ⟨some a, cap, by rw [hll], by omega, rfl, by omega, fun _ => ⟨a, rfl, fun j p hj => ?_⟩⟩, by omega, fun x hx => ?_⟩
    · obtain ⟨cs', h1, h2, _⟩ := hp j p hj
      obtain ⟨_, h3, h4⟩ := World.cells?_some h1
      refine ⟨cs', d.K_len h2, h2, fun i u hu => ?_⟩
      have hil : i < P.cellsOf e := by rw [← h3]; exact (List.getElem?_eq_some_iff.1 hu).1
      have := h4 i hil
      rw [hu, Go.Deep.add_add, hc] at this
      exact this
    · obtain ⟨i, hi', rfl⟩ := List.mem_iff_getElem.1 hx
      obtain ⟨_, _, _, h5⟩ := hp i _ (List.getElem?_eq_getElem hi')
      exact h5

/-- Fields from number i on, whose cells begin at off. -/
def OpensFrom {α : Type} (P : Program) (fs : Array Field) (i off : Nat) (d : Kd α) (wf : α → Prop) : Prop :=
  ∀ (H : Type) (enc : TypeId × Value → H) (w : World) (base : Nat) (spare : Nat → Bool) (held : Bool) (n : Nat) (cs : List Value) (xs : List (DataW H × List MemPlace)), xs.length = fs.size →
    (∀ (j : Nat) (f : Field), fs[j]? = some f → DataW.trod enc P w base spare held n f.type ((cs.drop f.offset).take (P.cellsOf f.type)) = xs[j]?) → ∃ a, d.K w a ((cs.drop off).take d.sz) ∧ wf a
/-- both parts of a pair -/
def wfp {α β : Type} (a : α → Prop) (b : β → Prop) (p : α × β) : Prop := a p.1 ∧ b p.2
theorem opens_last {α : Type} {P : Program} {fs : Array Field} (i off : Nat) (ft : TypeId) (d : Kd α) (wf : α → Prop) (hf : (fs[i]?).map (fun f => (f.offset, f.type)) = some (off, ft)) (hc : P.cellsOf ft = d.sz) (ho : Opens P ft d wf) : OpensFrom P fs i off d wf := by
  intro H enc w base spare held n cs xs hl h
  obtain ⟨f, hf', he⟩ := Option.map_eq_some_iff.1 hf
  simp only [Prod.mk.injEq] at he
  obtain ⟨rfl, rfl⟩ := he
  have h1 := h i f hf'
  have hi : i < fs.size := (Array.getElem?_eq_some_iff.1 hf').1
  rw [List.getElem?_eq_getElem (by omega), hc] at h1
  exact ho _ _ _ _ _ _ _ _ _ h1
theorem opens_cons {α β : Type} {P : Program} {fs : Array Field} (i off off' : Nat) (ft : TypeId) (d : Kd α) (d' : Kd β) (wf : α → Prop) (wf' : β → Prop) (hf : (fs[i]?).map (fun f => (f.offset, f.type)) = some (off, ft)) (hc : P.cellsOf ft = d.sz) (hoff : off' = off + d.sz) (ho : Opens P ft d wf)
    (hr : OpensFrom P fs (i + 1) off' d' wf') : OpensFrom P fs i off (Kd.pair d d') (wfp wf wf') := by
  intro H enc w base spare held n cs xs hl h
  obtain ⟨a, ha, hwa⟩ := opens_last i off ft d wf hf hc ho H enc w base spare held n cs xs hl h
  obtain ⟨b, hb, hwb⟩ := hr H enc w base spare held n cs xs hl h
  refine ⟨(a, b), ⟨_, _, ?_, ha, hb⟩, hwa, hwb⟩
  show List.take (d.sz + d'.sz) _ = _
  rw [List.take_add, List.drop_drop, hoff]
theorem opens_struct {α β : Type} {P : Program} {t : TypeId} {fs : Array Field} {d : Kd α} {wf : α → Prop} (f : β → α) (g : α → β) (hg : ∀ p, f (g p) = p) (ht : P.underlying t = some (.struct fs)) (hc : P.cellsOf t = d.sz) (ho : OpensFrom P fs 0 0 d wf) : Opens P t (Kd.iso d f) (fun x => wf (f x)) := by
  intro H enc w base spare held fuel cs x h
  obtain ⟨xs, n, _, _, hlen, hxl, hf⟩ := DataW.trod_struct ht h
  obtain ⟨a, ha, hw⟩ := ho H enc w base spare held n cs xs hxl hf
  rw [List.drop_zero, ← hc, ← hlen, List.take_length] at ha
  exact ⟨g a, show d.K w (f (g a)) cs by rw [hg]; exact ha, show wf (f (g a)) by rw [hg]; exact hw⟩
/-- An argument that is a struct. -/
theorem arg_struct {α : Type} {H : Type} {enc : TypeId × Value → H} {P : Program} {W : World} {base : Nat} {spare : Nat → Bool} {held : Bool} {t : TypeId} {d : Kd α} {wf : α → Prop} {cs : Array Value} {D : DataW H} {ps : List MemPlace}
    (ho : Opens P t d wf) (h : DataW.Trod enc P W base spare held t (.agg cs) D ps) : ∃ x : α, d.K W x cs.toList ∧ wf x := by
  obtain ⟨fuel, hf⟩ := h
  exact ho _ _ _ _ _ _ _ _ _ hf
end Go.Proofs.Ytlmabdiodopidaa.G
/-! ### small plain lemmas on numbers -/
namespace Go.Proofs.Ytlmabdiodopidaa.G
open Go.RowKit
theorem wrap64_of {x : Int} (h : okI x) : wrap64 x = x := by unfold okI at h; unfold wrap64; omega
theorem w64 {x : Int} (h1 : -9223372036854775808 ≤ x) (h2 : x < 9223372036854775808) : wrap64 x = x := by unfold wrap64; omega
theorem step1 {k n : Nat} (h : n + 1 ≤ k) : ∃ m, k = m + 1 ∧ n ≤ m := ⟨k - 1, by omega, by omega⟩
end Go.Proofs.Ytlmabdiodopidaa.G
end
section
set_option linter.unusedVariables false
set_option linter.unusedSimpArgs false
namespace Go.Proofs.Ytlmabdiodopidaa.G
open Go.RowKit Go.Proofs.YtlmabdiodopidaaW.PrintWords Go.Proofs.YtlmabdiodopidaaW.PrintLast Go.Proofs.YtlmabdiodopidaaW.PrintMore Go.Proofs.Ytlmabdiodopidaa.P
set_option maxRecDepth 100000
def wf50 (x : S50) : Prop := okN .i64 x.f0 ∧ okN .i64 x.f1
theorem op50 : Opens Try.prog 50 k50 wf50 := opens_struct (d := (Kd.pair (Kd.int .i64) (Kd.int .i64))) (wf := wfp (okN .i64) (okN .i64)) (fun x : S50 => (x.f0, x.f1)) (fun p => ⟨p.1, p.2⟩) (fun _ => rfl) Try.underlying50 (show Try.prog.cellsOf 50 = 2 by kernel_rfl) (opens_cons 0 0 1 3 (Kd.int .i64) (Kd.int .i64) (okN .i64) (okN .i64) rfl (show Try.prog.cellsOf 3 = 1 by kernel_rfl) rfl (opens_int Try.underlying3) (opens_last 1 1 3 (Kd.int .i64) (okN .i64) rfl (show Try.prog.cellsOf 3 = 1 by kernel_rfl) (opens_int Try.underlying3)))
end Go.Proofs.Ytlmabdiodopidaa.G
end
section
set_option linter.unusedVariables false
set_option linter.unusedSimpArgs false
namespace Go.Proofs.Ytlmabdiodopidaa.G
open Go.RowKit Go.ChangeShapes Go.WideShapes Go.Deep Go.Proofs.YtlmabdiodopidaaW.PrintWords Go.Proofs.YtlmabdiodopidaaW.PrintLast Go.Proofs.YtlmabdiodopidaaW.PrintMore Go.Proofs.Ytlmabdiodopidaa.P
set_option maxRecDepth 100000

/-- any one cell -/
def raw : Kd Value where
  sz := 1
  E := []
  K _ v cs := cs = [v] ∧ v.oneCell' = true
  M _ _ _ v cs := cs = [v] ∧ v.oneCell' = true
  K_len := by rintro w x cs ⟨rfl, _⟩; rfl
  K_one := by rintro w x cs ⟨rfl, h⟩ u hu; rw [List.mem_singleton] at hu; rw [hu]; exact h
  K_below := fun _ h => h
  K_of_M := fun h => h
  M_mono := fun _ h => h
  M_bound := fun h => h
  M_move := fun _ h => h
  M_lower := fun _ h => h
theorem opens_raw {α : Type} {P : Program} {t : TypeId} {d : Kd α} {wf : α → Prop} (ho : Opens P t d wf) (hs : d.sz = 1) : Opens P t raw (fun _ => True) := by
  intro H enc w base spare held fuel cs x h
  obtain ⟨a, ha, _⟩ := ho H enc w base spare held fuel cs x h
  have hl := d.K_len ha
  rw [hs] at hl
  obtain ⟨v, rfl⟩ := List.length_eq_one_iff.1 hl
  exact ⟨v, ⟨rfl, d.K_one ha v (by simp)⟩, trivial⟩
theorem opens_raw_slice {P : Program} {t e : TypeId} (ht : P.underlying t = some (.slice e)) : Opens P t raw (fun _ => True) := by
  intro H enc w base spare held fuel cs x h
  rcases open_slice ht h with ⟨rfl, _⟩ | ⟨a, len, cap, m, n, D, Pl, rfl, _⟩
  · exact ⟨_, ⟨rfl, rfl⟩, trivial⟩
  · exact ⟨_, ⟨rfl, rfl⟩, trivial⟩

structure Leg where
  acct : Int
  amt : Int
  cur : Value
def zLeg : Leg := ⟨0, 0, .bool false⟩
def kLeg : Kd Leg := Kd.iso (Kd.pair (Kd.int .i64) (Kd.pair (Kd.int .i64) raw)) (fun x : Leg => (x.acct, (x.amt, x.cur)))
def wfLeg (x : Leg) : Prop := (wfp (okN .i64) (wfp (okN .i64) (fun _ : Value => True))) (x.acct, (x.amt, x.cur))
theorem opLeg : Opens Try.prog 132 kLeg wfLeg := opens_struct (d := (Kd.pair (Kd.int .i64) (Kd.pair (Kd.int .i64) raw))) (wf := (wfp (okN .i64) (wfp (okN .i64) (fun _ : Value => True)))) (fun x : Leg => (x.acct, (x.amt, x.cur))) (fun p => ⟨p.1, p.2.1, p.2.2⟩) (fun _ => rfl) Try.underlying132 (show Try.prog.cellsOf 132 = 3 by kernel_rfl) (opens_cons 0 0 1 3 (Kd.int .i64) (Kd.pair (Kd.int .i64) raw) (okN .i64) (wfp (okN .i64) (fun _ : Value => True)) rfl (show Try.prog.cellsOf 3 = 1 by kernel_rfl) rfl (opens_int Try.underlying3) (opens_cons 1 1 2 3 (Kd.int .i64) raw (okN .i64) (fun _ : Value => True) rfl (show Try.prog.cellsOf 3 = 1 by kernel_rfl) rfl (opens_int Try.underlying3) (opens_last 2 2 9 raw (fun _ : Value => True) rfl (show Try.prog.cellsOf 9 = 1 by kernel_rfl) (opens_raw (opens_string Try.underlying9) rfl))))
theorem kLeg_open {w : World} {x : Leg} {cs : List Value} (h : kLeg.K w x cs) : cs = [.int .i64 x.acct, .int .i64 x.amt, x.cur] := by
  obtain ⟨_, _, rfl, rfl, ⟨_, _, rfl, rfl, ⟨rfl, _⟩⟩⟩ := h
  rfl
structure Ent where
  r0 : Value
  booked : Int
  value : Int
  r3 : Value
  r4 : Value
  r5 : Value
  r6 : Value
  r7 : Value
  legs : List Leg
  r9 : Value
def zEnt : Ent := ⟨.bool false, 0, 0, .bool false, .bool false, .bool false, .bool false, .bool false, [], .bool false⟩
def kEnt : Kd Ent := Kd.iso (Kd.pair raw (Kd.pair (Kd.int .i64) (Kd.pair (Kd.int .i64) (Kd.pair raw (Kd.pair raw (Kd.pair raw (Kd.pair raw (Kd.pair raw (Kd.pair (Kd.slice 132 kLeg) raw))))))))) (fun x : Ent => (x.r0, (x.booked, (x.value, (x.r3, (x.r4, (x.r5, (x.r6, (x.r7, (x.legs, x.r9))))))))))
def wfEnt (x : Ent) : Prop := (wfp (fun _ : Value => True) (wfp (okN .i64) (wfp (okN .i64) (wfp (fun _ : Value => True) (wfp (fun _ : Value => True) (wfp (fun _ : Value => True) (wfp (fun _ : Value => True) (wfp (fun _ : Value => True) (wfp (okL wfLeg) (fun _ : Value => True)))))))))) (x.r0, (x.booked, (x.value, (x.r3, (x.r4, (x.r5, (x.r6, (x.r7, (x.legs, x.r9)))))))))
theorem opEnt : Opens Try.prog 82 kEnt wfEnt := opens_struct (d := (Kd.pair raw (Kd.pair (Kd.int .i64) (Kd.pair (Kd.int .i64) (Kd.pair raw (Kd.pair raw (Kd.pair raw (Kd.pair raw (Kd.pair raw (Kd.pair (Kd.slice 132 kLeg) raw)))))))))) (wf := (wfp (fun _ : Value => True) (wfp (okN .i64) (wfp (okN .i64) (wfp (fun _ : Value => True) (wfp (fun _ : Value => True) (wfp (fun _ : Value => True) (wfp (fun _ : Value => True) (wfp (fun _ : Value => True) (wfp (okL wfLeg) (fun _ : Value => True))))))))))) (fun x : Ent => (x.r0, (x.booked, (x.value, (x.r3, (x.r4, (x.r5, (x.r6, (x.r7, (x.legs, x.r9)))))))))) (fun p => ⟨p.1, p.2.1, p.2.2.1, p.2.2.2.1, p.2.2.2.2.1, p.2.2.2.2.2.1, p.2.2.2.2.2.2.1, p.2.2.2.2.2.2.2.1, p.2.2.2.2.2.2.2.2.1, p.2.2.2.2.2.2.2.2.2⟩) (fun _ => rfl) Try.underlying82 (show Try.prog.cellsOf 82 = 10 by kernel_rfl) (opens_cons 0 0 1 3 raw (Kd.pair (Kd.int .i64) (Kd.pair (Kd.int .i64) (Kd.pair raw (Kd.pair raw (Kd.pair raw (Kd.pair raw (Kd.pair raw (Kd.pair (Kd.slice 132 kLeg) raw)))))))) (fun _ : Value => True) (wfp (okN .i64) (wfp (okN .i64) (wfp (fun _ : Value => True) (wfp (fun _ : Value => True) (wfp (fun _ : Value => True) (wfp (fun _ : Value => True) (wfp (fun _ : Value => True) (wfp (okL wfLeg) (fun _ : Value => True))))))))) rfl (show Try.prog.cellsOf 3 = 1 by kernel_rfl) rfl (opens_raw (opens_int Try.underlying3) rfl) (opens_cons 1 1 2 3 (Kd.int .i64) (Kd.pair (Kd.int .i64) (Kd.pair raw (Kd.pair raw (Kd.pair raw (Kd.pair raw (Kd.pair raw (Kd.pair (Kd.slice 132 kLeg) raw))))))) (okN .i64) (wfp (okN .i64) (wfp (fun _ : Value => True) (wfp (fun _ : Value => True) (wfp (fun _ : Value => True) (wfp (fun _ : Value => True) (wfp (fun _ : Value => True) (wfp (okL wfLeg) (fun _ : Value => True)))))))) rfl (show Try.prog.cellsOf 3 = 1 by kernel_rfl) rfl (opens_int Try.underlying3) (opens_cons 2 2 3 3 (Kd.int .i64) (Kd.pair raw (Kd.pair raw (Kd.pair raw (Kd.pair raw (Kd.pair raw (Kd.pair (Kd.slice 132 kLeg) raw)))))) (okN .i64) (wfp (fun _ : Value => True) (wfp (fun _ : Value => True) (wfp (fun _ : Value => True) (wfp (fun _ : Value => True) (wfp (fun _ : Value => True) (wfp (okL wfLeg) (fun _ : Value => True))))))) rfl (show Try.prog.cellsOf 3 = 1 by kernel_rfl) rfl (opens_int Try.underlying3) (opens_cons 3 3 4 3 raw (Kd.pair raw (Kd.pair raw (Kd.pair raw (Kd.pair raw (Kd.pair (Kd.slice 132 kLeg) raw))))) (fun _ : Value => True) (wfp (fun _ : Value => True) (wfp (fun _ : Value => True) (wfp (fun _ : Value => True) (wfp (fun _ : Value => True) (wfp (okL wfLeg) (fun _ : Value => True)))))) rfl (show Try.prog.cellsOf 3 = 1 by kernel_rfl) rfl (opens_raw (opens_int Try.underlying3) rfl) (opens_cons 4 4 5 3 raw (Kd.pair raw (Kd.pair raw (Kd.pair raw (Kd.pair (Kd.slice 132 kLeg) raw)))) (fun _ : Value => True) (wfp (fun _ : Value => True) (wfp (fun _ : Value => True) (wfp (fun _ : Value => True) (wfp (okL wfLeg) (fun _ : Value => True))))) rfl (show Try.prog.cellsOf 3 = 1 by kernel_rfl) rfl (opens_raw (opens_int Try.underlying3) rfl) (opens_cons 5 5 6 3 raw (Kd.pair raw (Kd.pair raw (Kd.pair (Kd.slice 132 kLeg) raw))) (fun _ : Value => True) (wfp (fun _ : Value => True) (wfp (fun _ : Value => True) (wfp (okL wfLeg) (fun _ : Value => True)))) rfl (show Try.prog.cellsOf 3 = 1 by kernel_rfl) rfl (opens_raw (opens_int Try.underlying3) rfl) (opens_cons 6 6 7 9 raw (Kd.pair raw (Kd.pair (Kd.slice 132 kLeg) raw)) (fun _ : Value => True) (wfp (fun _ : Value => True) (wfp (okL wfLeg) (fun _ : Value => True))) rfl (show Try.prog.cellsOf 9 = 1 by kernel_rfl) rfl (opens_raw (opens_string Try.underlying9) rfl) (opens_cons 7 7 8 9 raw (Kd.pair (Kd.slice 132 kLeg) raw) (fun _ : Value => True) (wfp (okL wfLeg) (fun _ : Value => True)) rfl (show Try.prog.cellsOf 9 = 1 by kernel_rfl) rfl (opens_raw (opens_string Try.underlying9) rfl) (opens_cons 8 8 9 80 (Kd.slice 132 kLeg) raw (okL wfLeg) (fun _ : Value => True) rfl (show Try.prog.cellsOf 80 = 1 by kernel_rfl) rfl (opens_slice 132 Try.underlying80 (show Try.prog.cellsOf 132 = 3 by kernel_rfl) opLeg) (opens_last 9 9 33 raw (fun _ : Value => True) rfl (show Try.prog.cellsOf 33 = 1 by kernel_rfl) (opens_raw (opens_int Try.underlying33) rfl)))))))))))
structure Acc where
  id : Int
  opened : Int
  closed : Int
  r3 : Value
  r4 : Value
  prod : ByteArray
  r6 : Value
def zAcc : Acc := ⟨0, 0, 0, .bool false, .bool false, ⟨#[]⟩, .bool false⟩
def kAcc : Kd Acc := Kd.iso (Kd.pair (Kd.int .i64) (Kd.pair (Kd.int .i64) (Kd.pair (Kd.int .i64) (Kd.pair raw (Kd.pair raw (Kd.pair Kd.string raw)))))) (fun x : Acc => (x.id, (x.opened, (x.closed, (x.r3, (x.r4, (x.prod, x.r6)))))))
def wfAcc (x : Acc) : Prop := (wfp (okN .i64) (wfp (okN .i64) (wfp (okN .i64) (wfp (fun _ : Value => True) (wfp (fun _ : Value => True) (wfp (fun s : ByteArray => s.size ≤ 9223372036854775807) (fun _ : Value => True))))))) (x.id, (x.opened, (x.closed, (x.r3, (x.r4, (x.prod, x.r6))))))
theorem opAcc : Opens Try.prog 101 kAcc wfAcc := opens_struct (d := (Kd.pair (Kd.int .i64) (Kd.pair (Kd.int .i64) (Kd.pair (Kd.int .i64) (Kd.pair raw (Kd.pair raw (Kd.pair Kd.string raw))))))) (wf := (wfp (okN .i64) (wfp (okN .i64) (wfp (okN .i64) (wfp (fun _ : Value => True) (wfp (fun _ : Value => True) (wfp (fun s : ByteArray => s.size ≤ 9223372036854775807) (fun _ : Value => True)))))))) (fun x : Acc => (x.id, (x.opened, (x.closed, (x.r3, (x.r4, (x.prod, x.r6))))))) (fun p => ⟨p.1, p.2.1, p.2.2.1, p.2.2.2.1, p.2.2.2.2.1, p.2.2.2.2.2.1, p.2.2.2.2.2.2⟩) (fun _ => rfl) Try.underlying101 (show Try.prog.cellsOf 101 = 7 by kernel_rfl) (opens_cons 0 0 1 3 (Kd.int .i64) (Kd.pair (Kd.int .i64) (Kd.pair (Kd.int .i64) (Kd.pair raw (Kd.pair raw (Kd.pair Kd.string raw))))) (okN .i64) (wfp (okN .i64) (wfp (okN .i64) (wfp (fun _ : Value => True) (wfp (fun _ : Value => True) (wfp (fun s : ByteArray => s.size ≤ 9223372036854775807) (fun _ : Value => True)))))) rfl (show Try.prog.cellsOf 3 = 1 by kernel_rfl) rfl (opens_int Try.underlying3) (opens_cons 1 1 2 3 (Kd.int .i64) (Kd.pair (Kd.int .i64) (Kd.pair raw (Kd.pair raw (Kd.pair Kd.string raw)))) (okN .i64) (wfp (okN .i64) (wfp (fun _ : Value => True) (wfp (fun _ : Value => True) (wfp (fun s : ByteArray => s.size ≤ 9223372036854775807) (fun _ : Value => True))))) rfl (show Try.prog.cellsOf 3 = 1 by kernel_rfl) rfl (opens_int Try.underlying3) (opens_cons 2 2 3 3 (Kd.int .i64) (Kd.pair raw (Kd.pair raw (Kd.pair Kd.string raw))) (okN .i64) (wfp (fun _ : Value => True) (wfp (fun _ : Value => True) (wfp (fun s : ByteArray => s.size ≤ 9223372036854775807) (fun _ : Value => True)))) rfl (show Try.prog.cellsOf 3 = 1 by kernel_rfl) rfl (opens_int Try.underlying3) (opens_cons 3 3 4 3 raw (Kd.pair raw (Kd.pair Kd.string raw)) (fun _ : Value => True) (wfp (fun _ : Value => True) (wfp (fun s : ByteArray => s.size ≤ 9223372036854775807) (fun _ : Value => True))) rfl (show Try.prog.cellsOf 3 = 1 by kernel_rfl) rfl (opens_raw (opens_int Try.underlying3) rfl) (opens_cons 4 4 5 9 raw (Kd.pair Kd.string raw) (fun _ : Value => True) (wfp (fun s : ByteArray => s.size ≤ 9223372036854775807) (fun _ : Value => True)) rfl (show Try.prog.cellsOf 9 = 1 by kernel_rfl) rfl (opens_raw (opens_string Try.underlying9) rfl) (opens_cons 5 5 6 9 Kd.string raw (fun s : ByteArray => s.size ≤ 9223372036854775807) (fun _ : Value => True) rfl (show Try.prog.cellsOf 9 = 1 by kernel_rfl) rfl (opens_string Try.underlying9) (opens_last 6 6 9 raw (fun _ : Value => True) rfl (show Try.prog.cellsOf 9 = 1 by kernel_rfl) (opens_raw (opens_string Try.underlying9) rfl))))))))
theorem kAcc_open {w : World} {x : Acc} {cs : List Value} (h : kAcc.K w x cs) : cs = [.int .i64 x.id, .int .i64 x.opened, .int .i64 x.closed, x.r3, x.r4, .string x.prod, x.r6] := by
  obtain ⟨_, _, rfl, rfl, ⟨_, _, rfl, rfl, ⟨_, _, rfl, rfl, ⟨_, _, rfl, ⟨rfl, _⟩, ⟨_, _, rfl, ⟨rfl, _⟩, ⟨_, _, rfl, rfl, ⟨rfl, _⟩⟩⟩⟩⟩⟩⟩ := h
  rfl
structure Intr where
  tiers : List S50
  marg : Bool
  basis : Int
  r3 : Value
  r4 : Value
def zIntr : Intr := ⟨[], false, 0, .bool false, .bool false⟩
def kIntr : Kd Intr := Kd.iso (Kd.pair (Kd.slice 50 k50) (Kd.pair Kd.bool (Kd.pair (Kd.int .i64) (Kd.pair raw raw)))) (fun x : Intr => (x.tiers, (x.marg, (x.basis, (x.r3, x.r4)))))
def wfIntr (x : Intr) : Prop := (wfp (okL wf50) (wfp (fun _ : Bool => True) (wfp (okN .i64) (wfp (fun _ : Value => True) (fun _ : Value => True))))) (x.tiers, (x.marg, (x.basis, (x.r3, x.r4))))
theorem opIntr : Opens Try.prog 94 kIntr wfIntr := opens_struct (d := (Kd.pair (Kd.slice 50 k50) (Kd.pair Kd.bool (Kd.pair (Kd.int .i64) (Kd.pair raw raw))))) (wf := (wfp (okL wf50) (wfp (fun _ : Bool => True) (wfp (okN .i64) (wfp (fun _ : Value => True) (fun _ : Value => True)))))) (fun x : Intr => (x.tiers, (x.marg, (x.basis, (x.r3, x.r4))))) (fun p => ⟨p.1, p.2.1, p.2.2.1, p.2.2.2.1, p.2.2.2.2⟩) (fun _ => rfl) Try.underlying94 (show Try.prog.cellsOf 94 = 5 by kernel_rfl) (opens_cons 0 0 1 22 (Kd.slice 50 k50) (Kd.pair Kd.bool (Kd.pair (Kd.int .i64) (Kd.pair raw raw))) (okL wf50) (wfp (fun _ : Bool => True) (wfp (okN .i64) (wfp (fun _ : Value => True) (fun _ : Value => True)))) rfl (show Try.prog.cellsOf 22 = 1 by kernel_rfl) rfl (opens_slice 50 Try.underlying22 (show Try.prog.cellsOf 50 = 2 by kernel_rfl) op50) (opens_cons 1 1 2 4 Kd.bool (Kd.pair (Kd.int .i64) (Kd.pair raw raw)) (fun _ : Bool => True) (wfp (okN .i64) (wfp (fun _ : Value => True) (fun _ : Value => True))) rfl (show Try.prog.cellsOf 4 = 1 by kernel_rfl) rfl (opens_bool Try.underlying4) (opens_cons 2 2 3 3 (Kd.int .i64) (Kd.pair raw raw) (okN .i64) (wfp (fun _ : Value => True) (fun _ : Value => True)) rfl (show Try.prog.cellsOf 3 = 1 by kernel_rfl) rfl (opens_int Try.underlying3) (opens_cons 3 3 4 3 raw raw (fun _ : Value => True) (fun _ : Value => True) rfl (show Try.prog.cellsOf 3 = 1 by kernel_rfl) rfl (opens_raw (opens_int Try.underlying3) rfl) (opens_last 4 4 4 raw (fun _ : Value => True) rfl (show Try.prog.cellsOf 4 = 1 by kernel_rfl) (opens_raw (opens_bool Try.underlying4) rfl))))))
structure Prd where
  name : ByteArray
  r1 : Value
  r2 : Value
  since : Int
  r4 : Value
  r5 : Value
  r6 : Value
  cr : Intr
  db : Intr
  r17 : Value
  r18 : Value
def zPrd : Prd := ⟨⟨#[]⟩, .bool false, .bool false, 0, .bool false, .bool false, .bool false, zIntr, zIntr, .bool false, .bool false⟩
def kPrd : Kd Prd := Kd.iso (Kd.pair Kd.string (Kd.pair raw (Kd.pair raw (Kd.pair (Kd.int .i64) (Kd.pair raw (Kd.pair raw (Kd.pair raw (Kd.pair kIntr (Kd.pair kIntr (Kd.pair raw raw)))))))))) (fun x : Prd => (x.name, (x.r1, (x.r2, (x.since, (x.r4, (x.r5, (x.r6, (x.cr, (x.db, (x.r17, x.r18)))))))))))
def wfPrd (x : Prd) : Prop := (wfp (fun s : ByteArray => s.size ≤ 9223372036854775807) (wfp (fun _ : Value => True) (wfp (fun _ : Value => True) (wfp (okN .i64) (wfp (fun _ : Value => True) (wfp (fun _ : Value => True) (wfp (fun _ : Value => True) (wfp wfIntr (wfp wfIntr (wfp (fun _ : Value => True) (fun _ : Value => True))))))))))) (x.name, (x.r1, (x.r2, (x.since, (x.r4, (x.r5, (x.r6, (x.cr, (x.db, (x.r17, x.r18))))))))))
theorem opPrd : Opens Try.prog 98 kPrd wfPrd := opens_struct (d := (Kd.pair Kd.string (Kd.pair raw (Kd.pair raw (Kd.pair (Kd.int .i64) (Kd.pair raw (Kd.pair raw (Kd.pair raw (Kd.pair kIntr (Kd.pair kIntr (Kd.pair raw raw))))))))))) (wf := (wfp (fun s : ByteArray => s.size ≤ 9223372036854775807) (wfp (fun _ : Value => True) (wfp (fun _ : Value => True) (wfp (okN .i64) (wfp (fun _ : Value => True) (wfp (fun _ : Value => True) (wfp (fun _ : Value => True) (wfp wfIntr (wfp wfIntr (wfp (fun _ : Value => True) (fun _ : Value => True)))))))))))) (fun x : Prd => (x.name, (x.r1, (x.r2, (x.since, (x.r4, (x.r5, (x.r6, (x.cr, (x.db, (x.r17, x.r18))))))))))) (fun p => ⟨p.1, p.2.1, p.2.2.1, p.2.2.2.1, p.2.2.2.2.1, p.2.2.2.2.2.1, p.2.2.2.2.2.2.1, p.2.2.2.2.2.2.2.1, p.2.2.2.2.2.2.2.2.1, p.2.2.2.2.2.2.2.2.2.1, p.2.2.2.2.2.2.2.2.2.2⟩) (fun _ => rfl) Try.underlying98 (show Try.prog.cellsOf 98 = 19 by kernel_rfl) (opens_cons 0 0 1 9 Kd.string (Kd.pair raw (Kd.pair raw (Kd.pair (Kd.int .i64) (Kd.pair raw (Kd.pair raw (Kd.pair raw (Kd.pair kIntr (Kd.pair kIntr (Kd.pair raw raw))))))))) (fun s : ByteArray => s.size ≤ 9223372036854775807) (wfp (fun _ : Value => True) (wfp (fun _ : Value => True) (wfp (okN .i64) (wfp (fun _ : Value => True) (wfp (fun _ : Value => True) (wfp (fun _ : Value => True) (wfp wfIntr (wfp wfIntr (wfp (fun _ : Value => True) (fun _ : Value => True)))))))))) rfl (show Try.prog.cellsOf 9 = 1 by kernel_rfl) rfl (opens_string Try.underlying9) (opens_cons 1 1 2 9 raw (Kd.pair raw (Kd.pair (Kd.int .i64) (Kd.pair raw (Kd.pair raw (Kd.pair raw (Kd.pair kIntr (Kd.pair kIntr (Kd.pair raw raw)))))))) (fun _ : Value => True) (wfp (fun _ : Value => True) (wfp (okN .i64) (wfp (fun _ : Value => True) (wfp (fun _ : Value => True) (wfp (fun _ : Value => True) (wfp wfIntr (wfp wfIntr (wfp (fun _ : Value => True) (fun _ : Value => True))))))))) rfl (show Try.prog.cellsOf 9 = 1 by kernel_rfl) rfl (opens_raw (opens_string Try.underlying9) rfl) (opens_cons 2 2 3 9 raw (Kd.pair (Kd.int .i64) (Kd.pair raw (Kd.pair raw (Kd.pair raw (Kd.pair kIntr (Kd.pair kIntr (Kd.pair raw raw))))))) (fun _ : Value => True) (wfp (okN .i64) (wfp (fun _ : Value => True) (wfp (fun _ : Value => True) (wfp (fun _ : Value => True) (wfp wfIntr (wfp wfIntr (wfp (fun _ : Value => True) (fun _ : Value => True)))))))) rfl (show Try.prog.cellsOf 9 = 1 by kernel_rfl) rfl (opens_raw (opens_string Try.underlying9) rfl) (opens_cons 3 3 4 3 (Kd.int .i64) (Kd.pair raw (Kd.pair raw (Kd.pair raw (Kd.pair kIntr (Kd.pair kIntr (Kd.pair raw raw)))))) (okN .i64) (wfp (fun _ : Value => True) (wfp (fun _ : Value => True) (wfp (fun _ : Value => True) (wfp wfIntr (wfp wfIntr (wfp (fun _ : Value => True) (fun _ : Value => True))))))) rfl (show Try.prog.cellsOf 3 = 1 by kernel_rfl) rfl (opens_int Try.underlying3) (opens_cons 4 4 5 3 raw (Kd.pair raw (Kd.pair raw (Kd.pair kIntr (Kd.pair kIntr (Kd.pair raw raw))))) (fun _ : Value => True) (wfp (fun _ : Value => True) (wfp (fun _ : Value => True) (wfp wfIntr (wfp wfIntr (wfp (fun _ : Value => True) (fun _ : Value => True)))))) rfl (show Try.prog.cellsOf 3 = 1 by kernel_rfl) rfl (opens_raw (opens_int Try.underlying3) rfl) (opens_cons 5 5 6 3 raw (Kd.pair raw (Kd.pair kIntr (Kd.pair kIntr (Kd.pair raw raw)))) (fun _ : Value => True) (wfp (fun _ : Value => True) (wfp wfIntr (wfp wfIntr (wfp (fun _ : Value => True) (fun _ : Value => True))))) rfl (show Try.prog.cellsOf 3 = 1 by kernel_rfl) rfl (opens_raw (opens_int Try.underlying3) rfl) (opens_cons 6 6 7 3 raw (Kd.pair kIntr (Kd.pair kIntr (Kd.pair raw raw))) (fun _ : Value => True) (wfp wfIntr (wfp wfIntr (wfp (fun _ : Value => True) (fun _ : Value => True)))) rfl (show Try.prog.cellsOf 3 = 1 by kernel_rfl) rfl (opens_raw (opens_int Try.underlying3) rfl) (opens_cons 7 7 12 94 kIntr (Kd.pair kIntr (Kd.pair raw raw)) wfIntr (wfp wfIntr (wfp (fun _ : Value => True) (fun _ : Value => True))) rfl (show Try.prog.cellsOf 94 = 5 by kernel_rfl) rfl opIntr (opens_cons 8 12 17 94 kIntr (Kd.pair raw raw) wfIntr (wfp (fun _ : Value => True) (fun _ : Value => True)) rfl (show Try.prog.cellsOf 94 = 5 by kernel_rfl) rfl opIntr (opens_cons 9 17 18 95 raw raw (fun _ : Value => True) (fun _ : Value => True) rfl (show Try.prog.cellsOf 95 = 1 by kernel_rfl) rfl (opens_raw_slice Try.underlying95) (opens_last 10 18 96 raw (fun _ : Value => True) rfl (show Try.prog.cellsOf 96 = 1 by kernel_rfl) (opens_raw_slice Try.underlying96))))))))))))
structure Plan where
  p0 : Value
  p1 : Value
  p2 : Value
  p3 : Value
  p4 : Value
  p5 : Value
  p6 : Value
  p7 : Value
  p8 : Value
  p9 : Value
  p10 : Value
  p11 : Value
  p12 : Value
  p13 : Value
def kPlan : Kd Plan := Kd.iso (Kd.pair raw (Kd.pair raw (Kd.pair raw (Kd.pair raw (Kd.pair raw (Kd.pair raw (Kd.pair raw (Kd.pair raw (Kd.pair raw (Kd.pair raw (Kd.pair raw (Kd.pair raw (Kd.pair raw raw))))))))))))) (fun x : Plan => (x.p0, (x.p1, (x.p2, (x.p3, (x.p4, (x.p5, (x.p6, (x.p7, (x.p8, (x.p9, (x.p10, (x.p11, (x.p12, x.p13))))))))))))))
def wfPlan (x : Plan) : Prop := (wfp (fun _ : Value => True) (wfp (fun _ : Value => True) (wfp (fun _ : Value => True) (wfp (fun _ : Value => True) (wfp (fun _ : Value => True) (wfp (fun _ : Value => True) (wfp (fun _ : Value => True) (wfp (fun _ : Value => True) (wfp (fun _ : Value => True) (wfp (fun _ : Value => True) (wfp (fun _ : Value => True) (wfp (fun _ : Value => True) (wfp (fun _ : Value => True) (fun _ : Value => True)))))))))))))) (x.p0, (x.p1, (x.p2, (x.p3, (x.p4, (x.p5, (x.p6, (x.p7, (x.p8, (x.p9, (x.p10, (x.p11, (x.p12, x.p13)))))))))))))
theorem opPlan : Opens Try.prog 56 kPlan wfPlan := opens_struct (d := (Kd.pair raw (Kd.pair raw (Kd.pair raw (Kd.pair raw (Kd.pair raw (Kd.pair raw (Kd.pair raw (Kd.pair raw (Kd.pair raw (Kd.pair raw (Kd.pair raw (Kd.pair raw (Kd.pair raw raw)))))))))))))) (wf := (wfp (fun _ : Value => True) (wfp (fun _ : Value => True) (wfp (fun _ : Value => True) (wfp (fun _ : Value => True) (wfp (fun _ : Value => True) (wfp (fun _ : Value => True) (wfp (fun _ : Value => True) (wfp (fun _ : Value => True) (wfp (fun _ : Value => True) (wfp (fun _ : Value => True) (wfp (fun _ : Value => True) (wfp (fun _ : Value => True) (wfp (fun _ : Value => True) (fun _ : Value => True))))))))))))))) (fun x : Plan => (x.p0, (x.p1, (x.p2, (x.p3, (x.p4, (x.p5, (x.p6, (x.p7, (x.p8, (x.p9, (x.p10, (x.p11, (x.p12, x.p13)))))))))))))) (fun p => ⟨p.1, p.2.1, p.2.2.1, p.2.2.2.1, p.2.2.2.2.1, p.2.2.2.2.2.1, p.2.2.2.2.2.2.1, p.2.2.2.2.2.2.2.1, p.2.2.2.2.2.2.2.2.1, p.2.2.2.2.2.2.2.2.2.1, p.2.2.2.2.2.2.2.2.2.2.1, p.2.2.2.2.2.2.2.2.2.2.2.1, p.2.2.2.2.2.2.2.2.2.2.2.2.1, p.2.2.2.2.2.2.2.2.2.2.2.2.2⟩) (fun _ => rfl) Try.underlying56 (show Try.prog.cellsOf 56 = 14 by kernel_rfl) (opens_cons 0 0 1 3 raw (Kd.pair raw (Kd.pair raw (Kd.pair raw (Kd.pair raw (Kd.pair raw (Kd.pair raw (Kd.pair raw (Kd.pair raw (Kd.pair raw (Kd.pair raw (Kd.pair raw (Kd.pair raw raw)))))))))))) (fun _ : Value => True) (wfp (fun _ : Value => True) (wfp (fun _ : Value => True) (wfp (fun _ : Value => True) (wfp (fun _ : Value => True) (wfp (fun _ : Value => True) (wfp (fun _ : Value => True) (wfp (fun _ : Value => True) (wfp (fun _ : Value => True) (wfp (fun _ : Value => True) (wfp (fun _ : Value => True) (wfp (fun _ : Value => True) (wfp (fun _ : Value => True) (fun _ : Value => True))))))))))))) rfl (show Try.prog.cellsOf 3 = 1 by kernel_rfl) rfl (opens_raw (opens_int Try.underlying3) rfl) (opens_cons 1 1 2 3 raw (Kd.pair raw (Kd.pair raw (Kd.pair raw (Kd.pair raw (Kd.pair raw (Kd.pair raw (Kd.pair raw (Kd.pair raw (Kd.pair raw (Kd.pair raw (Kd.pair raw raw))))))))))) (fun _ : Value => True) (wfp (fun _ : Value => True) (wfp (fun _ : Value => True) (wfp (fun _ : Value => True) (wfp (fun _ : Value => True) (wfp (fun _ : Value => True) (wfp (fun _ : Value => True) (wfp (fun _ : Value => True) (wfp (fun _ : Value => True) (wfp (fun _ : Value => True) (wfp (fun _ : Value => True) (wfp (fun _ : Value => True) (fun _ : Value => True)))))))))))) rfl (show Try.prog.cellsOf 3 = 1 by kernel_rfl) rfl (opens_raw (opens_int Try.underlying3) rfl) (opens_cons 2 2 3 3 raw (Kd.pair raw (Kd.pair raw (Kd.pair raw (Kd.pair raw (Kd.pair raw (Kd.pair raw (Kd.pair raw (Kd.pair raw (Kd.pair raw (Kd.pair raw raw)))))))))) (fun _ : Value => True) (wfp (fun _ : Value => True) (wfp (fun _ : Value => True) (wfp (fun _ : Value => True) (wfp (fun _ : Value => True) (wfp (fun _ : Value => True) (wfp (fun _ : Value => True) (wfp (fun _ : Value => True) (wfp (fun _ : Value => True) (wfp (fun _ : Value => True) (wfp (fun _ : Value => True) (fun _ : Value => True))))))))))) rfl (show Try.prog.cellsOf 3 = 1 by kernel_rfl) rfl (opens_raw (opens_int Try.underlying3) rfl) (opens_cons 3 3 4 3 raw (Kd.pair raw (Kd.pair raw (Kd.pair raw (Kd.pair raw (Kd.pair raw (Kd.pair raw (Kd.pair raw (Kd.pair raw (Kd.pair raw raw))))))))) (fun _ : Value => True) (wfp (fun _ : Value => True) (wfp (fun _ : Value => True) (wfp (fun _ : Value => True) (wfp (fun _ : Value => True) (wfp (fun _ : Value => True) (wfp (fun _ : Value => True) (wfp (fun _ : Value => True) (wfp (fun _ : Value => True) (wfp (fun _ : Value => True) (fun _ : Value => True)))))))))) rfl (show Try.prog.cellsOf 3 = 1 by kernel_rfl) rfl (opens_raw (opens_int Try.underlying3) rfl) (opens_cons 4 4 5 3 raw (Kd.pair raw (Kd.pair raw (Kd.pair raw (Kd.pair raw (Kd.pair raw (Kd.pair raw (Kd.pair raw (Kd.pair raw raw)))))))) (fun _ : Value => True) (wfp (fun _ : Value => True) (wfp (fun _ : Value => True) (wfp (fun _ : Value => True) (wfp (fun _ : Value => True) (wfp (fun _ : Value => True) (wfp (fun _ : Value => True) (wfp (fun _ : Value => True) (wfp (fun _ : Value => True) (fun _ : Value => True))))))))) rfl (show Try.prog.cellsOf 3 = 1 by kernel_rfl) rfl (opens_raw (opens_int Try.underlying3) rfl) (opens_cons 5 5 6 3 raw (Kd.pair raw (Kd.pair raw (Kd.pair raw (Kd.pair raw (Kd.pair raw (Kd.pair raw (Kd.pair raw raw))))))) (fun _ : Value => True) (wfp (fun _ : Value => True) (wfp (fun _ : Value => True) (wfp (fun _ : Value => True) (wfp (fun _ : Value => True) (wfp (fun _ : Value => True) (wfp (fun _ : Value => True) (wfp (fun _ : Value => True) (fun _ : Value => True)))))))) rfl (show Try.prog.cellsOf 3 = 1 by kernel_rfl) rfl (opens_raw (opens_int Try.underlying3) rfl) (opens_cons 6 6 7 3 raw (Kd.pair raw (Kd.pair raw (Kd.pair raw (Kd.pair raw (Kd.pair raw (Kd.pair raw raw)))))) (fun _ : Value => True) (wfp (fun _ : Value => True) (wfp (fun _ : Value => True) (wfp (fun _ : Value => True) (wfp (fun _ : Value => True) (wfp (fun _ : Value => True) (wfp (fun _ : Value => True) (fun _ : Value => True))))))) rfl (show Try.prog.cellsOf 3 = 1 by kernel_rfl) rfl (opens_raw (opens_int Try.underlying3) rfl) (opens_cons 7 7 8 3 raw (Kd.pair raw (Kd.pair raw (Kd.pair raw (Kd.pair raw (Kd.pair raw raw))))) (fun _ : Value => True) (wfp (fun _ : Value => True) (wfp (fun _ : Value => True) (wfp (fun _ : Value => True) (wfp (fun _ : Value => True) (wfp (fun _ : Value => True) (fun _ : Value => True)))))) rfl (show Try.prog.cellsOf 3 = 1 by kernel_rfl) rfl (opens_raw (opens_int Try.underlying3) rfl) (opens_cons 8 8 9 3 raw (Kd.pair raw (Kd.pair raw (Kd.pair raw (Kd.pair raw raw)))) (fun _ : Value => True) (wfp (fun _ : Value => True) (wfp (fun _ : Value => True) (wfp (fun _ : Value => True) (wfp (fun _ : Value => True) (fun _ : Value => True))))) rfl (show Try.prog.cellsOf 3 = 1 by kernel_rfl) rfl (opens_raw (opens_int Try.underlying3) rfl) (opens_cons 9 9 10 3 raw (Kd.pair raw (Kd.pair raw (Kd.pair raw raw))) (fun _ : Value => True) (wfp (fun _ : Value => True) (wfp (fun _ : Value => True) (wfp (fun _ : Value => True) (fun _ : Value => True)))) rfl (show Try.prog.cellsOf 3 = 1 by kernel_rfl) rfl (opens_raw (opens_int Try.underlying3) rfl) (opens_cons 10 10 11 3 raw (Kd.pair raw (Kd.pair raw raw)) (fun _ : Value => True) (wfp (fun _ : Value => True) (wfp (fun _ : Value => True) (fun _ : Value => True))) rfl (show Try.prog.cellsOf 3 = 1 by kernel_rfl) rfl (opens_raw (opens_int Try.underlying3) rfl) (opens_cons 11 11 12 3 raw (Kd.pair raw raw) (fun _ : Value => True) (wfp (fun _ : Value => True) (fun _ : Value => True)) rfl (show Try.prog.cellsOf 3 = 1 by kernel_rfl) rfl (opens_raw (opens_int Try.underlying3) rfl) (opens_cons 12 12 13 3 raw raw (fun _ : Value => True) (fun _ : Value => True) rfl (show Try.prog.cellsOf 3 = 1 by kernel_rfl) rfl (opens_raw (opens_int Try.underlying3) rfl) (opens_last 13 13 3 raw (fun _ : Value => True) rfl (show Try.prog.cellsOf 3 = 1 by kernel_rfl) (opens_raw (opens_int Try.underlying3) rfl)))))))))))))))
structure Bk where
  r0 : Value
  r1 : Value
  r2 : Value
  plan : Plan
  prods : List Prd
  accs : List Acc
  jour : List Ent
  r20 : Value
  r21 : Value
def kBk : Kd Bk := Kd.iso (Kd.pair raw (Kd.pair raw (Kd.pair raw (Kd.pair kPlan (Kd.pair (Kd.slice 98 kPrd) (Kd.pair (Kd.slice 101 kAcc) (Kd.pair (Kd.slice 82 kEnt) (Kd.pair raw raw)))))))) (fun x : Bk => (x.r0, (x.r1, (x.r2, (x.plan, (x.prods, (x.accs, (x.jour, (x.r20, x.r21)))))))))
def wfBk (x : Bk) : Prop := (wfp (fun _ : Value => True) (wfp (fun _ : Value => True) (wfp (fun _ : Value => True) (wfp wfPlan (wfp (okL wfPrd) (wfp (okL wfAcc) (wfp (okL wfEnt) (wfp (fun _ : Value => True) (fun _ : Value => True))))))))) (x.r0, (x.r1, (x.r2, (x.plan, (x.prods, (x.accs, (x.jour, (x.r20, x.r21))))))))
theorem opBk : Opens Try.prog 63 kBk wfBk := opens_struct (d := (Kd.pair raw (Kd.pair raw (Kd.pair raw (Kd.pair kPlan (Kd.pair (Kd.slice 98 kPrd) (Kd.pair (Kd.slice 101 kAcc) (Kd.pair (Kd.slice 82 kEnt) (Kd.pair raw raw))))))))) (wf := (wfp (fun _ : Value => True) (wfp (fun _ : Value => True) (wfp (fun _ : Value => True) (wfp wfPlan (wfp (okL wfPrd) (wfp (okL wfAcc) (wfp (okL wfEnt) (wfp (fun _ : Value => True) (fun _ : Value => True)))))))))) (fun x : Bk => (x.r0, (x.r1, (x.r2, (x.plan, (x.prods, (x.accs, (x.jour, (x.r20, x.r21))))))))) (fun p => ⟨p.1, p.2.1, p.2.2.1, p.2.2.2.1, p.2.2.2.2.1, p.2.2.2.2.2.1, p.2.2.2.2.2.2.1, p.2.2.2.2.2.2.2.1, p.2.2.2.2.2.2.2.2⟩) (fun _ => rfl) Try.underlying63 (show Try.prog.cellsOf 63 = 22 by kernel_rfl) (opens_cons 0 0 1 52 raw (Kd.pair raw (Kd.pair raw (Kd.pair kPlan (Kd.pair (Kd.slice 98 kPrd) (Kd.pair (Kd.slice 101 kAcc) (Kd.pair (Kd.slice 82 kEnt) (Kd.pair raw raw))))))) (fun _ : Value => True) (wfp (fun _ : Value => True) (wfp (fun _ : Value => True) (wfp wfPlan (wfp (okL wfPrd) (wfp (okL wfAcc) (wfp (okL wfEnt) (wfp (fun _ : Value => True) (fun _ : Value => True)))))))) rfl (show Try.prog.cellsOf 52 = 1 by kernel_rfl) rfl (opens_raw_slice Try.underlying52) (opens_cons 1 1 2 53 raw (Kd.pair raw (Kd.pair kPlan (Kd.pair (Kd.slice 98 kPrd) (Kd.pair (Kd.slice 101 kAcc) (Kd.pair (Kd.slice 82 kEnt) (Kd.pair raw raw)))))) (fun _ : Value => True) (wfp (fun _ : Value => True) (wfp wfPlan (wfp (okL wfPrd) (wfp (okL wfAcc) (wfp (okL wfEnt) (wfp (fun _ : Value => True) (fun _ : Value => True))))))) rfl (show Try.prog.cellsOf 53 = 1 by kernel_rfl) rfl (opens_raw_slice Try.underlying53) (opens_cons 2 2 3 54 raw (Kd.pair kPlan (Kd.pair (Kd.slice 98 kPrd) (Kd.pair (Kd.slice 101 kAcc) (Kd.pair (Kd.slice 82 kEnt) (Kd.pair raw raw))))) (fun _ : Value => True) (wfp wfPlan (wfp (okL wfPrd) (wfp (okL wfAcc) (wfp (okL wfEnt) (wfp (fun _ : Value => True) (fun _ : Value => True)))))) rfl (show Try.prog.cellsOf 54 = 1 by kernel_rfl) rfl (opens_raw_slice Try.underlying54) (opens_cons 3 3 17 56 kPlan (Kd.pair (Kd.slice 98 kPrd) (Kd.pair (Kd.slice 101 kAcc) (Kd.pair (Kd.slice 82 kEnt) (Kd.pair raw raw)))) wfPlan (wfp (okL wfPrd) (wfp (okL wfAcc) (wfp (okL wfEnt) (wfp (fun _ : Value => True) (fun _ : Value => True))))) rfl (show Try.prog.cellsOf 56 = 14 by kernel_rfl) rfl opPlan (opens_cons 4 17 18 57 (Kd.slice 98 kPrd) (Kd.pair (Kd.slice 101 kAcc) (Kd.pair (Kd.slice 82 kEnt) (Kd.pair raw raw))) (okL wfPrd) (wfp (okL wfAcc) (wfp (okL wfEnt) (wfp (fun _ : Value => True) (fun _ : Value => True)))) rfl (show Try.prog.cellsOf 57 = 1 by kernel_rfl) rfl (opens_slice 98 Try.underlying57 (show Try.prog.cellsOf 98 = 19 by kernel_rfl) opPrd) (opens_cons 5 18 19 58 (Kd.slice 101 kAcc) (Kd.pair (Kd.slice 82 kEnt) (Kd.pair raw raw)) (okL wfAcc) (wfp (okL wfEnt) (wfp (fun _ : Value => True) (fun _ : Value => True))) rfl (show Try.prog.cellsOf 58 = 1 by kernel_rfl) rfl (opens_slice 101 Try.underlying58 (show Try.prog.cellsOf 101 = 7 by kernel_rfl) opAcc) (opens_cons 6 19 20 59 (Kd.slice 82 kEnt) (Kd.pair raw raw) (okL wfEnt) (wfp (fun _ : Value => True) (fun _ : Value => True)) rfl (show Try.prog.cellsOf 59 = 1 by kernel_rfl) rfl (opens_slice 82 Try.underlying59 (show Try.prog.cellsOf 82 = 10 by kernel_rfl) opEnt) (opens_cons 7 20 21 60 raw raw (fun _ : Value => True) (fun _ : Value => True) rfl (show Try.prog.cellsOf 60 = 1 by kernel_rfl) rfl (opens_raw_slice Try.underlying60) (opens_last 8 21 61 raw (fun _ : Value => True) rfl (show Try.prog.cellsOf 61 = 1 by kernel_rfl) (opens_raw_slice Try.underlying61))))))))))
def rdAcc (xs : List Acc) (i : Int) : Acc := xs.getD i.toNat zAcc
theorem atAcc {w : World} {A : Option Addr} {n : Nat} {xs : List Acc} (h : Kd.C kAcc w A n xs) (i : Int) (h0 : 0 ≤ i) (h1 : i < n) : ∃ (ad : Addr), A = some ad ∧ w.cell? (ad.add (i.toNat * 7)) = some (.int .i64 (rdAcc xs i).id) ∧ w.cell? ⟨(ad.add (i.toNat * 7)).block, (ad.add (i.toNat * 7)).off + 1, none⟩ = some (.int .i64 (rdAcc xs i).opened) ∧ w.cell? ⟨(ad.add (i.toNat * 7)).block, (ad.add (i.toNat * 7)).off + 2, none⟩ = some (.int .i64 (rdAcc xs i).closed) ∧ w.cell? ⟨(ad.add (i.toNat * 7)).block, (ad.add (i.toNat * 7)).off + 3, none⟩ = some ((rdAcc xs i).r3) ∧ w.cell? ⟨(ad.add (i.toNat * 7)).block, (ad.add (i.toNat * 7)).off + 4, none⟩ = some ((rdAcc xs i).r4) ∧ w.cell? ⟨(ad.add (i.toNat * 7)).block, (ad.add (i.toNat * 7)).off + 5, none⟩ = some (.string (rdAcc xs i).prod) ∧ w.cell? ⟨(ad.add (i.toNat * 7)).block, (ad.add (i.toNat * 7)).off + 6, none⟩ = some ((rdAcc xs i).r6) := by
  obtain ⟨ad, c, e, _, hK, hc0⟩ := Kd.C_get h zAcc i h0 h1
  have hc : ∀ j u, c[j]? = some u → w.cell? (ad.add (i.toNat * 7 + j)) = some u := hc0
  obtain rfl := kAcc_open hK
  exact ⟨ad, e, hc 0 _ rfl, by rw [← add_field _ _ 1 (by omega)]; exact hc 1 _ rfl, by rw [← add_field _ _ 2 (by omega)]; exact hc 2 _ rfl, by rw [← add_field _ _ 3 (by omega)]; exact hc 3 _ rfl, by rw [← add_field _ _ 4 (by omega)]; exact hc 4 _ rfl, by rw [← add_field _ _ 5 (by omega)]; exact hc 5 _ rfl, by rw [← add_field _ _ 6 (by omega)]; exact hc 6 _ rfl⟩
theorem kEnt_open {w : World} {x : Ent} {cs : List Value} (h : kEnt.K w x cs) : ∃ (A_legs : Option Addr) (c_legs : Nat), cs = [x.r0, .int .i64 x.booked, .int .i64 x.value, x.r3, x.r4, x.r5, x.r6, x.r7, .slice A_legs x.legs.length c_legs, x.r9] ∧ (x.legs.length ≤ c_legs ∧ Kd.C kLeg w A_legs x.legs.length x.legs) := by
  obtain ⟨_, _, rfl, ⟨rfl, _⟩, ⟨_, _, rfl, rfl, ⟨_, _, rfl, rfl, ⟨_, _, rfl, ⟨rfl, _⟩, ⟨_, _, rfl, ⟨rfl, _⟩, ⟨_, _, rfl, ⟨rfl, _⟩, ⟨_, _, rfl, ⟨rfl, _⟩, ⟨_, _, rfl, ⟨rfl, _⟩, ⟨_, _, rfl, ⟨A1, c1, rfl, l1, g1⟩, ⟨rfl, _⟩⟩⟩⟩⟩⟩⟩⟩⟩⟩ := h
  exact ⟨A1, c1, rfl, ⟨l1, g1⟩⟩
theorem kIntr_open {w : World} {x : Intr} {cs : List Value} (h : kIntr.K w x cs) : ∃ (A_tiers : Option Addr) (c_tiers : Nat), cs = [.slice A_tiers x.tiers.length c_tiers, .bool x.marg, .int .i64 x.basis, x.r3, x.r4] ∧ (x.tiers.length ≤ c_tiers ∧ Kd.C k50 w A_tiers x.tiers.length x.tiers) := by
  obtain ⟨_, _, rfl, ⟨A1, c1, rfl, l1, g1⟩, ⟨_, _, rfl, rfl, ⟨_, _, rfl, rfl, ⟨_, _, rfl, ⟨rfl, _⟩, ⟨rfl, _⟩⟩⟩⟩⟩ := h
  exact ⟨A1, c1, rfl, ⟨l1, g1⟩⟩
theorem kPrd_open {w : World} {x : Prd} {cs : List Value} (h : kPrd.K w x cs) : ∃ (A_cr_tiers : Option Addr) (c_cr_tiers : Nat) (A_db_tiers : Option Addr) (c_db_tiers : Nat), cs = [.string x.name, x.r1, x.r2, .int .i64 x.since, x.r4, x.r5, x.r6, .slice A_cr_tiers x.cr.tiers.length c_cr_tiers, .bool x.cr.marg, .int .i64 x.cr.basis, x.cr.r3, x.cr.r4, .slice A_db_tiers x.db.tiers.length c_db_tiers, .bool x.db.marg, .int .i64 x.db.basis, x.db.r3, x.db.r4, x.r17, x.r18] ∧ (x.cr.tiers.length ≤ c_cr_tiers ∧ Kd.C k50 w A_cr_tiers x.cr.tiers.length x.cr.tiers) ∧ (x.db.tiers.length ≤ c_db_tiers ∧ Kd.C k50 w A_db_tiers x.db.tiers.length x.db.tiers) := by
  obtain ⟨_, _, rfl, rfl, ⟨_, _, rfl, ⟨rfl, _⟩, ⟨_, _, rfl, ⟨rfl, _⟩, ⟨_, _, rfl, rfl, ⟨_, _, rfl, ⟨rfl, _⟩, ⟨_, _, rfl, ⟨rfl, _⟩, ⟨_, _, rfl, ⟨rfl, _⟩, ⟨_, _, rfl, ⟨_, _, rfl, ⟨A1, c1, rfl, l1, g1⟩, ⟨_, _, rfl, rfl, ⟨_, _, rfl, rfl, ⟨_, _, rfl, ⟨rfl, _⟩, ⟨rfl, _⟩⟩⟩⟩⟩, ⟨_, _, rfl, ⟨_, _, rfl, ⟨A2, c2, rfl, l2, g2⟩, ⟨_, _, rfl, rfl, ⟨_, _, rfl, rfl, ⟨_, _, rfl, ⟨rfl, _⟩, ⟨rfl, _⟩⟩⟩⟩⟩, ⟨_, _, rfl, ⟨rfl, _⟩, ⟨rfl, _⟩⟩⟩⟩⟩⟩⟩⟩⟩⟩⟩ := h
  exact ⟨A1, c1, A2, c2, rfl, ⟨l1, g1⟩, ⟨l2, g2⟩⟩
def rdPrd (xs : List Prd) (i : Int) : Prd := xs.getD i.toNat zPrd
theorem kBk_open {w : World} {x : Bk} {cs : List Value} (h : kBk.K w x cs) : ∃ (A_prods : Option Addr) (c_prods : Nat) (A_accs : Option Addr) (c_accs : Nat) (A_jour : Option Addr) (c_jour : Nat), cs = [x.r0, x.r1, x.r2, x.plan.p0, x.plan.p1, x.plan.p2, x.plan.p3, x.plan.p4, x.plan.p5, x.plan.p6, x.plan.p7, x.plan.p8, x.plan.p9, x.plan.p10, x.plan.p11, x.plan.p12, x.plan.p13, .slice A_prods x.prods.length c_prods, .slice A_accs x.accs.length c_accs, .slice A_jour x.jour.length c_jour, x.r20, x.r21] ∧ (x.prods.length ≤ c_prods ∧ Kd.C kPrd w A_prods x.prods.length x.prods) ∧ (x.accs.length ≤ c_accs ∧ Kd.C kAcc w A_accs x.accs.length x.accs) ∧ (x.jour.length ≤ c_jour ∧ Kd.C kEnt w A_jour x.jour.length x.jour) := by
  obtain ⟨_, _, rfl, ⟨rfl, _⟩, ⟨_, _, rfl, ⟨rfl, _⟩, ⟨_, _, rfl, ⟨rfl, _⟩, ⟨_, _, rfl, ⟨_, _, rfl, ⟨rfl, _⟩, ⟨_, _, rfl, ⟨rfl, _⟩, ⟨_, _, rfl, ⟨rfl, _⟩, ⟨_, _, rfl, ⟨rfl, _⟩, ⟨_, _, rfl, ⟨rfl, _⟩, ⟨_, _, rfl, ⟨rfl, _⟩, ⟨_, _, rfl, ⟨rfl, _⟩, ⟨_, _, rfl, ⟨rfl, _⟩, ⟨_, _, rfl, ⟨rfl, _⟩, ⟨_, _, rfl, ⟨rfl, _⟩, ⟨_, _, rfl, ⟨rfl, _⟩, ⟨_, _, rfl, ⟨rfl, _⟩, ⟨_, _, rfl, ⟨rfl, _⟩, ⟨rfl, _⟩⟩⟩⟩⟩⟩⟩⟩⟩⟩⟩⟩⟩⟩, ⟨_, _, rfl, ⟨A1, c1, rfl, l1, g1⟩, ⟨_, _, rfl, ⟨A2, c2, rfl, l2, g2⟩, ⟨_, _, rfl, ⟨A3, c3, rfl, l3, g3⟩, ⟨_, _, rfl, ⟨rfl, _⟩, ⟨rfl, _⟩⟩⟩⟩⟩⟩⟩⟩⟩ := h
  exact ⟨A1, c1, A2, c2, A3, c3, rfl, ⟨l1, g1⟩, ⟨l2, g2⟩, ⟨l3, g3⟩⟩
end Go.Proofs.Ytlmabdiodopidaa.G
end
section
set_option linter.unusedVariables false
set_option linter.unusedSimpArgs false
namespace Go.Proofs.Ytlmabdiodopidaa.G
open Go.RowKit Go.Proofs.YtlmabdiodopidaaW.PrintWords Go.Proofs.YtlmabdiodopidaaW.PrintLast Go.Proofs.YtlmabdiodopidaaW.PrintMore
attribute [local go_sem high] un_not64 un_noti run_add64

/-- nothing that was there has changed: by the steps -/
theorem bel {w W : World} (h : Below w.heap.size w W := by repeat (first | exact Below.refl _ _ | apply below_drew1 | apply pw_below_drewN | refine Below.setCell ?_ (by first | (simp; done) | (simp; omega)) _ | refine Below.alloc ?_ (by first | (simp; done) | (simp; omega)) _)) : Below w.heap.size w W := h
theorem retw2 {a b a' b' : Int} (h1 : a = a') (h2 : b = b') : Ending.returned (.agg #[.int .i64 a, .int .u64 b]) = .returned (.agg #[.int .i64 a', .int .u64 b']) := by rw [h1, h2]
theorem reti {a b : Int} (h : a = b) : Ending.returned (.int .i64 a) = .returned (.int .i64 b) := by rw [h]
theorem retk3 {a a' : Bool} {b c b' c' : Int} (h1 : b = b') (h2 : c = c') (h3 : a = a') : Ending.returned (.tuple #[.agg #[.int .u64 b, .int .u64 c], .bool a]) = .returned (.tuple #[.agg #[.int .u64 b', .int .u64 c'], .bool a']) := by rw [h1, h2, h3]
theorem wrap64_hi {s : Int} (h : fits s) : wrap64 (hi s) = hi s := by
  unfold fits at h; unfold wrap64 hi; omega
theorem retw3_of {a b c r1 r2 r3 s : Int} (h : out s = (r1, r2, r3)) (e : out s = (a, b, c)) : Ending.returned (.tuple #[.agg #[.int .i64 a, .int .u64 b], .int .i64 c]) = .returned (.tuple #[.agg #[.int .i64 r1, .int .u64 r2], .int .i64 r3]) := by
  rw [e] at h; cases h; rfl

/-! ### math/bits.Mul64 -/
def bits_Mul64.f (a0 a1 : Int) : Option (Int × Int) := if okU a0 ∧ okU a1 then some (a0 * a1 / 18446744073709551616, a0 * a1 % 18446744073709551616) else none
theorem maskN (a : Nat) (ha : a < 18446744073709551616) : bits .and .u64 (a : Int) 4294967295 = ((a % 4294967296 : Nat) : Int) := by
  have h := bits_and_u64_nat a 4294967295 ha (by omega)
  have e : a &&& 4294967295 = a % 4294967296 := Nat.and_two_pow_sub_one_eq_mod a 32
  rw [e] at h
  exact h
theorem divN (a : Nat) : (a : Int) / 4294967296 = ((a / 4294967296 : Nat) : Int) := by omega
theorem mulN (a b : Nat) : (a : Int) * (b : Int) = ((a * b : Nat) : Int) := (Int.natCast_mul a b).symm
theorem addN (a b : Nat) : (a : Int) + (b : Int) = ((a + b : Nat) : Int) := (Int.natCast_add a b).symm
theorem wrapN (a : Nat) (ha : a < 18446744073709551616) : IntKind.u64.wrap (a : Int) = (a : Int) := by rw [IntKind.wrap_u64]; omega
theorem wrapM (a : Nat) : IntKind.u64.wrap (a : Int) = ((a % 18446744073709551616 : Nat) : Int) := by rw [IntKind.wrap_u64]; omega
set_option maxHeartbeats 1000000 in
theorem mul64_any (x y : Nat) (hx : x < 18446744073709551616) (hy : y < 18446744073709551616) (w : World) :
    Calls Try.prog 64 #[.int .u64 x, .int .u64 y] w fun e w' => e = .returned (.tuple #[.int .u64 ((x * y / 18446744073709551616 : Nat) : Int), .int .u64 ((x * y % 18446744073709551616 : Nat) : Int)]) ∧ w' = w := by
  obtain ⟨bd, bt, bw, hhi⟩ := Lib.mul64_hi x y hx hy
  have ba := Lib.half_mul_le (a := x / 4294967296) (b := y / 4294967296) (by omega) (by omega)
  have bb := Lib.half_mul_le (a := x / 4294967296) (b := y % 4294967296) (by omega) (by omega)
  have bc := Lib.half_mul_le (a := x % 4294967296) (b := y / 4294967296) (by omega) (by omega)
  have ba' : x / 4294967296 * (y / 4294967296) < 18446744073709551616 := by omega
  have bb' : x / 4294967296 * (y % 4294967296) < 18446744073709551616 := by omega
  have bc' : x % 4294967296 * (y / 4294967296) < 18446744073709551616 := by omega
  have bh1 : x / 4294967296 * (y / 4294967296) + (x / 4294967296 * (y % 4294967296) + x % 4294967296 * (y % 4294967296) / 4294967296) / 4294967296 < 18446744073709551616 := by omega
  have bh : x / 4294967296 * (y / 4294967296) + (x / 4294967296 * (y % 4294967296) + x % 4294967296 * (y % 4294967296) / 4294967296) / 4294967296 + ((x / 4294967296 * (y % 4294967296) + x % 4294967296 * (y % 4294967296) / 4294967296) % 4294967296 + x % 4294967296 * (y / 4294967296)) / 4294967296 < 18446744073709551616 := by omega
  go_enter Try.func64, Try.ntmps64
  go_wp2
  simp only [maskN x hx, maskN y hy, divN, mulN, addN, wrapN _ bd, wrapN _ bb', wrapN _ bt, maskN _ bt, wrapN _ bc', wrapN _ bw, wrapN _ ba', wrapN _ bh1, wrapN _ bh, wrapM (x * y)]
  rw [hhi]
  go_ret2
  exact ⟨rfl, rfl⟩
theorem bits_Mul64.calls (a0 a1 r1 r2 : Int) (w : World) (h : bits_Mul64.f a0 a1 = some (r1, r2)) : Calls Try.prog 64 #[.int .u64 a0, .int .u64 a1] w fun e w' => e = .returned (.tuple #[.int .u64 r1, .int .u64 r2]) ∧ Drawn0 w w' := by
  unfold bits_Mul64.f at h
  split at h
  case isFalse => cases h
  rename_i hk
  cases h
  obtain ⟨⟨h0, h1⟩, h2, h3⟩ := hk
  obtain ⟨x, rfl⟩ := Int.eq_ofNat_of_zero_le h0
  obtain ⟨y, rfl⟩ := Int.eq_ofNat_of_zero_le h2
  refine (mul64_any x y (by omega) (by omega) w).mono ?_
  rintro e w' ⟨rfl, rfl⟩
  exact ⟨rfl, Drawn0.refl _⟩

theorem mul64_some {x y : Int} (hx : okU x) (hy : okU y) : ∃ h l : Int, bits_Mul64.f x y = some (h, l) ∧ x * y = h * 18446744073709551616 + l ∧ okU h ∧ okU l := by
  refine ⟨x * y / 18446744073709551616, x * y % 18446744073709551616, by unfold bits_Mul64.f; rw [if_pos ⟨hx, hy⟩], by omega, ?_, by unfold okU; omega⟩
  have h1 := Int.mul_nonneg hx.1 hy.1
  have h2 := Int.mul_le_mul (show x ≤ 18446744073709551615 by unfold okU at hx; omega) (show y ≤ 18446744073709551615 by unfold okU at hy; omega) hy.1 (by omega)
  unfold okU
  generalize x * y = p at *
  omega

/-! ### wide.negate -/
def wide_negate.f (a0_0 a0_1 : Int) : Option (Int × Int) := if okW a0_0 a0_1 then some (wrap64 (hi (-val a0_0 a0_1)), lo (-val a0_0 a0_1)) else none
theorem wide_negate.calls (a0_0 a0_1 r1 r2 : Int) (w : World) (h : wide_negate.f a0_0 a0_1 = some (r1, r2)) : Calls Try.prog 65 #[.agg #[.int .i64 a0_0, .int .u64 a0_1]] w fun e w' =>
    e = .returned (.agg #[.int .i64 r1, .int .u64 r2]) ∧ Below w.heap.size w w' := by
  unfold wide_negate.f at h
  split at h
  case isFalse => cases h
  rename_i hk
  cases h
  obtain ⟨ha, hb⟩ := hk
  have e1 := not64_eq hb
  have e2 := noti_eq ha
  obtain ⟨a0, a1⟩ := ha
  obtain ⟨b0, b1⟩ := hb
  have k1 : wrap64 (IntKind.u64.wrap (IntKind.u64.wrap (Go.bits .xor .i64 (-1) a0_0) + add64c (not64 a0_1) 1)) = wrap64 (hi (-val a0_0 a0_1)) := by
    rw [e1, e2, add64c_eq (by omega) (by omega)]
    simp only [IntKind.wrap_u64]
    unfold wrap64 hi val
    omega
  have k2 : add64s (not64 a0_1) 1 = lo (-val a0_0 a0_1) := by
    rw [e1, add64s_eq (by omega) (by omega)]
    unfold lo val
    omega
  have K1 := Aside0.mk k1
  have K2 := Aside0.mk k2
  clear e1 e2 k1 k2
  go_enter Try.func65, Try.ntmps65
  go_wp2
  exact bodyPost_ret (v := .agg #[.int .i64 _, .int .u64 _]) (by simp [results, Try.results65, go_sem]) rfl ⟨retw2 K1.out K2.out, bel⟩

/-! ### wide.Add -/
def wide_Add.f (a0_0 a0_1 a1_0 a1_1 : Int) : Option (Int × Int × Int) := if okW a0_0 a0_1 ∧ okW a1_0 a1_1 then some (out (val a0_0 a0_1 + val a1_0 a1_1)) else none
set_option maxHeartbeats 1000000 in
theorem wide_Add.calls (a0_0 a0_1 a1_0 a1_1 r1 r2 r3 : Int) (w : World) (h : wide_Add.f a0_0 a0_1 a1_0 a1_1 = some (r1, r2, r3)) :
    Calls Try.prog 45 #[.agg #[.int .i64 a0_0, .int .u64 a0_1], .agg #[.int .i64 a1_0, .int .u64 a1_1]] w fun e w' => e = .returned (.tuple #[.agg #[.int .i64 r1, .int .u64 r2], .int .i64 r3]) ∧ Below w.heap.size w w' := by
  unfold wide_Add.f at h
  by_cases hw : okW a0_0 a0_1 ∧ okW a1_0 a1_1
  case neg => rw [if_neg hw] at h; cases h
  rw [if_pos hw] at h
  obtain ⟨⟨⟨p1, p2⟩, p3, p4⟩, ⟨q1, q2⟩, q3, q4⟩ := hw
  have e1 : wrap64 (wrap64 (a0_0 + a1_0) + wrap64 (add64c a0_1 a1_1)) = wrap64 (hi (val a0_0 a0_1 + val a1_0 a1_1)) := by
    rw [add64c_eq p3 q3]; unfold wrap64 hi val; omega
  have e2 : add64s a0_1 a1_1 = lo (val a0_0 a0_1 + val a1_0 a1_1) := by
    rw [add64s_eq p3 q3]; unfold lo val; omega
  have h' := Option.some.inj h
  clear h
  have H := Aside0.mk h'
  have E1 := Aside0.mk e1
  have E2 := Aside0.mk e2
  clear h' e1 e2
  go_enter Try.func45, Try.ntmps45
  go_wp2
  all_goals
    refine bodyPost_ret (v := .tuple #[.agg #[.int .i64 _, .int .u64 _], .int .i64 _]) (by simp [results, Try.results45, go_sem]; exact ⟨⟨rfl, rfl⟩, rfl⟩) rfl ⟨retw3_of H.out ?_, bel⟩
    have g1 := E1.out
    have g2 := E2.out
  · rename_i h1 h2
    rw [g1] at h2
    unfold out
    rw [if_neg]
    intro hf
    unfold fits val at hf
    unfold wrap64 hi val at h2
    by_cases hb : a1_0 < 0 <;> simp [hb] at h1 h2 <;> omega
  · rename_i h1 h2
    rw [g1] at h2 ⊢
    rw [g2]
    unfold out
    have hf : fits (val a0_0 a0_1 + val a1_0 a1_1) := by
      unfold fits val
      unfold wrap64 hi val at h2
      by_cases hb : a1_0 < 0 <;> simp [hb] at h1 h2 <;> omega
    rw [if_pos hf, wrap64_hi hf]
  · rename_i h1
    rw [g1, g2]
    unfold out
    have hf : fits (val a0_0 a0_1 + val a1_0 a1_1) := by
      unfold fits val
      by_cases hb : a1_0 < 0 <;> simp [hb] at h1 <;> omega
    rw [if_pos hf, wrap64_hi hf]

/-! ### (wide.size).times -/
/-- the full product and more -/
def wide_size_times.f (a0_0 a0_1 a1 a2 : Int) : Option (Int × Int × Bool) := if okU a0_0 ∧ okU a0_1 ∧ okU a1 ∧ okU a2 then some (hi (val a0_0 a0_1 * a1 + a2) % 18446744073709551616, lo (val a0_0 a0_1 * a1 + a2), decide (val a0_0 a0_1 * a1 + a2 < 340282366920938463463374607431768211456)) else none
set_option maxHeartbeats 1000000 in
theorem wide_size_times.calls (a0_0 a0_1 a1 a2 r1 r2 : Int) (r3 : Bool) (w : World) (h : wide_size_times.f a0_0 a0_1 a1 a2 = some (r1, r2, r3)) :
    Calls Try.prog 61 #[.agg #[.int .u64 a0_0, .int .u64 a0_1], .int .u64 a1, .int .u64 a2] w fun e w' => e = .returned (.tuple #[.agg #[.int .u64 r1, .int .u64 r2], .bool r3]) ∧ Below w.heap.size w w' := by
  unfold wide_size_times.f at h
  split at h
  case isFalse => cases h
  rename_i hk
  cases h
  obtain ⟨k0, k1, k2, k3⟩ := hk
  obtain ⟨qh, ql, A1, e1, z1, z2⟩ := mul64_some k1 k2
  obtain ⟨ph, pl, A2, e2, z3, z4⟩ := mul64_some k0 k2
  have full : val a0_0 a0_1 * a1 + a2 = (ph * 18446744073709551616 + pl) * 18446744073709551616 + (qh * 18446744073709551616 + ql) + a2 := by
    unfold val; rw [Int.add_mul, Int.mul_right_comm, e1, e2]
  rw [full]
  have lim : qh ≤ 18446744073709551614 := by
    have := Int.mul_le_mul (show a0_1 ≤ 18446744073709551615 by unfold okU at k1; omega) (show a1 ≤ 18446744073709551615 by unfold okU at k2; omega) k2.1 (by omega)
    unfold okU at z1 z2; omega
  clear full e1 e2
  have K : Aside0 (okU qh ∧ okU ql ∧ okU ph ∧ okU pl ∧ okU a2 ∧ qh ≤ 18446744073709551614) := ⟨⟨z1, z2, z3, z4, k3, lim⟩⟩
  have B1 := Aside0.mk A1
  have B2 := Aside0.mk A2
  clear A1 A2 z1 z2 z3 z4 k0 k1 k2 k3 lim
  go_enter Try.func61, Try.ntmps61
  go_wp2_with fail
  refine (bits_Mul64.calls _ _ qh ql _ B1.out).mono ?_
  rintro e w1 ⟨rfl, nd, rfl⟩
  go_wp2_with fail
  refine (bits_Mul64.calls _ _ ph pl _ B2.out).mono ?_
  rintro e w1 ⟨rfl, nd2, rfl⟩
  go_wp2
  all_goals
    refine bodyPost_ret (v := .tuple #[.agg #[.int .u64 _, .int .u64 _], .bool _]) (by simp [results, Try.results61, go_sem]; exact ⟨⟨rfl, rfl⟩, rfl⟩) rfl ⟨retk3 ?_ ?_ ?_, bel⟩
    all_goals
      obtain ⟨⟨s1, s2⟩, ⟨s3, s4⟩, ⟨s5, s6⟩, ⟨s7, s8⟩, ⟨s9, t1⟩, t2⟩ := K.out
      have x2 : IntKind.u64.wrap (qh + add64c ql a2) = qh + (ql + a2) / 18446744073709551616 := by
        rw [add64c_eq s3 s9, IntKind.wrap_u64]; omega
      have x3 := add64s_eq s3 s9
      have x4 := add64s_eq (x := pl) (y := qh + (ql + a2) / 18446744073709551616) s7 (by omega)
      have x5 := add64c_eq (x := pl) (y := qh + (ql + a2) / 18446744073709551616) s7 (by omega)
      clear K B1 B2
      try rw [x2]
      first | (rw [x4]; unfold hi; omega) | (rw [x3]; unfold lo; omega) | ((try rw [x5]); rw [Bool.eq_iff_iff]; simp; omega)

/-! ### corebankref01.plus -/
def corebankref01_plus.f (a0_0 a0_1 a1_0 a1_1 : Int) : Option (Int × Int × Bool) := if okU a0_0 ∧ okU a0_1 ∧ okU a1_0 ∧ okU a1_1 then some (hi (val a0_0 a0_1 + val a1_0 a1_1) % 18446744073709551616, lo (val a0_0 a0_1 + val a1_0 a1_1), decide (val a0_0 a0_1 + val a1_0 a1_1 < 340282366920938463463374607431768211456)) else none
set_option maxHeartbeats 1000000 in
theorem corebankref01_plus.calls (a0_0 a0_1 a1_0 a1_1 r1 r2 : Int) (r3 : Bool) (w : World) (h : corebankref01_plus.f a0_0 a0_1 a1_0 a1_1 = some (r1, r2, r3)) :
    Calls Try.prog 70 #[.agg #[.int .u64 a0_0, .int .u64 a0_1], .agg #[.int .u64 a1_0, .int .u64 a1_1]] w fun e w' => e = .returned (.tuple #[.agg #[.int .u64 r1, .int .u64 r2], .bool r3]) ∧ Below w.heap.size w w' := by
  unfold corebankref01_plus.f at h
  split at h
  case isFalse => cases h
  rename_i hk
  cases h
  have K := Aside0.mk hk
  clear hk
  go_enter Try.func70, Try.ntmps70
  go_wp2
  all_goals
    refine bodyPost_ret (v := .tuple #[.agg #[.int .u64 _, .int .u64 _], .bool _]) (by simp [results, Try.results70, go_sem]; exact ⟨⟨rfl, rfl⟩, rfl⟩) rfl ⟨retk3 ?_ ?_ ?_, bel⟩
    all_goals
      obtain ⟨⟨s1, s2⟩, ⟨s3, s4⟩, ⟨s5, s6⟩, s7, s8⟩ := K.out
      simp only [IntKind.wrap_u64] at *
      unfold val
      first | (unfold hi; omega) | (unfold lo; omega) | (rw [Bool.eq_iff_iff]; simp; omega)

/-! ### corebankref01.Cmp -/
def corebankref01_Cmp.f (a0_0 a0_1 a1_0 a1_1 : Int) : Option Int := some (if a0_0 = a1_0 ∧ a0_1 = a1_1 then 0 else if a0_0 < a1_0 ∨ a0_0 = a1_0 ∧ a0_1 < a1_1 then -1 else 1)
set_option maxHeartbeats 1000000 in
theorem corebankref01_Cmp.calls (a0_0 a0_1 a1_0 a1_1 r : Int) (w : World) (h : corebankref01_Cmp.f a0_0 a0_1 a1_0 a1_1 = some r) :
    Calls Try.prog 27 #[.agg #[.int .i64 a0_0, .int .u64 a0_1], .agg #[.int .i64 a1_0, .int .u64 a1_1]] w fun e w' => e = .returned (.int .i64 r) ∧ Below w.heap.size w w' := by
  unfold corebankref01_Cmp.f at h
  cases h
  by_cases c1 : a0_0 = a1_0 <;> by_cases c2 : a0_1 = a1_1 <;> by_cases c3 : a0_0 < a1_0 <;> by_cases c4 : a0_1 < a1_1
  all_goals try (exfalso; omega)
  all_goals
    go_enter Try.func27, Try.ntmps27
    go_wp2
    repeat (go_quiet (fail); try go_wp2)
  all_goals
    go_ret
    exact ⟨reti (by first | rfl | (split <;> first | omega | (split <;> omega))), bel⟩
end Go.Proofs.Ytlmabdiodopidaa.G
end
section
set_option linter.unusedVariables false
set_option linter.unusedSimpArgs false
namespace Go.Proofs.Ytlmabdiodopidaa.G
open Go.RowKit Go.Proofs.YtlmabdiodopidaaW.PrintWords Go.Proofs.YtlmabdiodopidaaW.PrintLast Go.Proofs.YtlmabdiodopidaaW.PrintMore Go.Proofs.Ytlmabdiodopidaa.P

theorem key_calls (f p : Int) (w : World) : Calls Try.prog 40 #[.agg #[.int .i64 f, .int .i64 p]] w fun e w' => e = .returned (.int .i64 f) ∧ Below w.heap.size w w' := by
  go_enter Try.func40, Try.ntmps40
  go_wp2
  go_ret
  exact ⟨rfl, (Below.refl _ _).alloc (Nat.le_refl _) _⟩

theorem keepc {W w1 : World} {a : Addr} {v : Value} (hb : Below W.heap.size W w1) (h : W.cell? a = some v) : w1.cell? a = some v := (hb.cell (World.block_lt_of_cell? W a h)).trans h
theorem bstep {w W w1 : World} (h : Below w.heap.size w W) (k : Below W.heap.size W w1) : Below w.heap.size w w1 := h.trans (k.mono h.size)
/-- ascending up to place k -/
def ascTo (l : List S50) (k : Int) : Prop := ∀ i : Int, 1 ≤ i → i < k → (rd_T50 l (i - 1)).f0 < (rd_T50 l i).f0
/-- are the keys strictly ascending -/
def ascB (l : List S50) : Bool := (List.range l.length).all fun i => i == 0 || decide ((rd_T50 l ((i : Int) - 1)).f0 < (rd_T50 l i).f0)
theorem ascB_yes {l : List S50} (h : ascTo l l.length) : ascB l = true := by
  unfold ascB
  rw [List.all_eq_true]
  intro i hi
  have hi' := List.mem_range.1 hi
  by_cases h0 : i = 0
  · simp [h0]
  · have := h i (by omega) (by omega)
    simp [this]
theorem ascB_no {l : List S50} {x : Int} (h1 : 1 ≤ x) (h2 : x < l.length) (h : (rd_T50 l x).f0 ≤ (rd_T50 l (x - 1)).f0) : ascB l = false := by
  unfold ascB
  rw [List.all_eq_false]
  refine ⟨x.toNat, List.mem_range.2 (by omega), ?_⟩
  rw [Int.toNat_of_nonneg (by omega)]
  have : ¬ x.toNat = 0 := by omega
  simp [this]
  omega
theorem retb {a b : Bool} (h : a = b) : Ending.returned (.bool a) = .returned (.bool b) := by rw [h]

set_option maxHeartbeats 1000000 in
theorem ascending_calls (A : Option Addr) (c : Nat) (l : List S50) (w : World) (hr : Kd.C k50 w A l.length l) (hl : l.length ≤ 6) :
    Calls Try.prog 39 #[.slice A l.length c, .func (.func 40) #[] #[]] w fun e w' => e = .returned (.bool (ascB l)) ∧ Below w.heap.size w w' := by
  have HR := Aside0.mk hr
  clear hr
  go_enter Try.func39, Try.ntmps39
  go_wp2
  go_loopw [5] (fun i wr => ∃ x : Int, 1 ≤ x ∧ x ≤ l.length + 1 ∧ i = .int .i64 x ∧ Aside0 (Below w.heap.size w wr) ∧ Aside0 (ascTo l (if x ≤ l.length then x else l.length))) (fun i _ => (l.length + 1) - (intOf i).toNat)
  case atStart => exact ⟨1, by omega, by omega, rfl, ⟨Below.refl _ _⟩, ⟨fun i h1 h2 => by split at h2 <;> omega⟩⟩
  case round =>
    obtain ⟨x, k1, k2, rfl, hb, ha⟩ := hrel
    by_cases hlt : x < l.length
    · obtain ⟨ad, rfl, hx0, hx1⟩ := at_T50 HR.out x (by omega) hlt
      obtain ⟨ad', e', hy0, hy1⟩ := at_T50 HR.out (x - 1) (by omega) (by omega)
      cases e'
      have xe : (x - 1).toNat = x.toNat - 1 := by omega
      rw [xe] at hy0 hy1
      clear xe
      have z4 : IntKind.i64.wrap (x - 1) = x - 1 := by rw [IntKind.wrap_i64]; omega
      have z1 : 0 ≤ x := by omega
      have z2 : 0 ≤ x - 1 := by omega
      have z3 : x - 1 < (l.length : Int) := by omega
      have gx0 := keepc hb.out hx0
      have gx1 := keepc hb.out hx1
      have gy0 := keepc hb.out hy0
      have gy1 := keepc hb.out hy1
      clear hx0 hx1 hy0 hy1
      by_cases hv : (rd_T50 l x).f0 ≤ (rd_T50 l (x - 1)).f0
      all_goals
        go_wp2
        go_region_held3 (fun w' => w'.cell? (ad.add (x.toNat * 2)) = some (.int .i64 (rd_T50 l x).f0) ∧ w'.cell? ⟨(ad.add (x.toNat * 2)).block, (ad.add (x.toNat * 2)).off + 1, none⟩ = some (.int .i64 (rd_T50 l x).f1) ∧ w'.cell? (ad.add ((x.toNat - 1) * 2)) = some (.int .i64 (rd_T50 l (x - 1)).f0) ∧ w'.cell? ⟨(ad.add ((x.toNat - 1) * 2)).block, (ad.add ((x.toNat - 1) * 2)).off + 1, none⟩ = some (.int .i64 (rd_T50 l (x - 1)).f1))
          (first
            | exact ⟨gx0, gx1, gy0, gy1⟩
            | go_keep
            | (go_split_ands
               refine ⟨?_, ?_, ?_, ?_⟩ <;> exact keepc hb1 (by assumption)))
          (first
            | (go_at_call 40; refine (key_calls _ _ _).mono ?_; rintro e w1 ⟨rfl, hb1⟩))
        go_wp2
      · go_ret
        exact ⟨retb (ascB_no k1 hlt hv).symm, bstep (bstep hb.out.drew (by assumption)) hb1⟩
      · go_roundw
        case rel => exact ⟨x + 1, by omega, by omega, by go_num, ⟨bstep (bstep hb.out.drew (by assumption)) hb1⟩, ⟨fun i h1 h2 => by
          by_cases hi : i = x
          · subst hi; omega
          · exact ha.out i h1 (by split at h2 <;> split <;> omega)⟩⟩
        case measure => simp [intOf]; omega
    · go_wp2
      go_ret
      exact ⟨retb (ascB_yes (fun i h1 h2 => ha.out i h1 (by split <;> omega))).symm, hb.out⟩
/-- a tier with a number out of its range -/
def badT (t : S50) : Bool := decide (t.f0 < 0) || decide (1000000000000 < t.f0) || decide (t.f1 < 0) || decide (1000000 < t.f1)
/-- what Check returns -/
def checkT (l : List S50) : Int := if 6 < l.length then 5 else if l.any badT then 1 else if ascB l = false then 10 else if l ≠ [] ∧ (rd_T50 l 0).f0 ≠ 0 then 1 else 0
def tier_Check.f (l0 : List S50) : Option Int := some (checkT l0)

theorem bad_at {l : List S50} {x : Int} (h0 : 0 ≤ x) (h1 : x < l.length) (h : badT (rd_T50 l x) = true) : l.any badT = true := by
  rw [List.any_eq_true]
  refine ⟨rd_T50 l x, ?_, h⟩
  unfold rd_T50
  rw [List.getD_eq_getElem?_getD, List.getElem?_eq_getElem (by omega), Option.getD_some]
  exact List.getElem_mem _
theorem bad_none {l : List S50} (h : ∀ i : Int, 0 ≤ i → i < l.length → badT (rd_T50 l i) = false) : l.any badT = false := by
  rw [List.any_eq_false]
  intro t ht
  obtain ⟨i, hi, rfl⟩ := List.mem_iff_getElem.1 ht
  have := h i (by omega) (by omega)
  unfold rd_T50 at this
  rw [Int.toNat_natCast, List.getD_eq_getElem?_getD, List.getElem?_eq_getElem hi, Option.getD_some] at this
  simp [this]

theorem check_bad {l : List S50} {x : Int} (c1 : ¬ 6 < l.length) (h0 : 0 ≤ x) (h1 : x < l.length) (h : badT (rd_T50 l x) = true) : checkT l = 1 := by
  unfold checkT
  rw [if_neg c1, if_pos (bad_at h0 h1 h)]
set_option maxHeartbeats 1000000 in
theorem tier_Check.calls (A0 : Option Addr) (c0 : Nat) (l0 : List S50) (r : Int) (w : World) (hr0 : Kd.C k50 w A0 l0.length l0) (hc0 : l0.length ≤ c0) (h : tier_Check.f l0 = some r) :
    Calls Try.prog 16 #[.slice A0 l0.length c0] w fun e w' => e = .returned (.int .i64 r) ∧ Below w.heap.size w w' := by
  have HR := Aside0.mk hr0
  have H := Aside0.mk (Option.some.inj h)
  clear hr0 h hc0
  by_cases c1 : 6 < l0.length
  · go_enter Try.func16, Try.ntmps16
    go_wp2
    go_ret
    exact ⟨reti (by rw [← H.out]; unfold checkT; rw [if_pos c1]), bel⟩
  · go_enter Try.func16, Try.ntmps16
    go_wp2
    go_loopw [10] (fun i wr => ∃ x : Int, 0 ≤ x ∧ x ≤ l0.length ∧ i = .int .i64 x ∧ Aside0 (Below w.heap.size w wr) ∧ Aside0 (∀ i : Int, 0 ≤ i → i < x → badT (rd_T50 l0 i) = false)) (fun i _ => l0.length - (intOf i).toNat)
    case atStart => exact ⟨0, by omega, by omega, rfl, ⟨bel⟩, ⟨fun i h1 h2 => by omega⟩⟩
    case round =>
      obtain ⟨x, k1, k2, rfl, hb, ha⟩ := hrel
      by_cases hlt : x < l0.length
      · obtain ⟨ad, rfl, hx0, hx1⟩ := at_T50 HR.out x k1 hlt
        have gx0 := keepc hb.out hx0
        have gx1 := keepc hb.out hx1
        clear hx0 hx1
        go_wp2
        all_goals first
          | (go_ret; exact ⟨reti (by rw [← H.out]; exact (check_bad c1 k1 hlt (by unfold badT; simp; omega)).symm), hb.out.alloc hb.out.size _⟩)
          | skip
        go_roundw
        case rel => exact ⟨x + 1, by omega, by omega, by go_num, ⟨hb.out.alloc hb.out.size _⟩, ⟨fun i h1 h2 => by
          by_cases hi : i = x
          · subst hi; unfold badT; simp; omega
          · exact ha.out i h1 (by omega)⟩⟩
        case measure => simp [intOf]; omega
      · have nb : l0.any badT = false := bad_none (fun i h1 h2 => ha.out i h1 (by omega))
        cases ba : ascB l0
        · have fin : checkT l0 = 10 := by unfold checkT; rw [if_neg c1, nb, ba]; simp
          have FIN := Aside0.mk fin
          clear fin nb
          go_wp2_with fail
          refine (ascending_calls _ _ _ _ (Kd.C_below HR.out hb.out) (by omega)).mono ?_
          rintro e w1 ⟨rfl, hb1⟩
          rw [ba]
          clear ba
          go_wp2
          go_ret
          exact ⟨reti (FIN.out.symm.trans H.out), bstep hb.out hb1⟩
        · by_cases hl : 0 < l0.length
          all_goals
            have BA := Aside0.mk ba
            have HL := Aside0.mk hl
            have NB := Aside0.mk nb
            clear nb ba hl
            go_wp2_with fail
            refine (ascending_calls _ _ _ _ (Kd.C_below HR.out hb.out) (by omega)).mono ?_
            rintro e w1 ⟨rfl, hb1⟩
            rw [BA.out]
          · have hd : decide (0 < l0.length) = true := decide_eq_true HL.out
            have hz : 0 < l0.length := HL.out
            obtain ⟨ad, rfl, hx0, hx1⟩ := at_T50 HR.out 0 (by omega) (by omega)
            rw [show (0 : Int).toNat * 2 = 0 from rfl, Addr.add_zero'] at hx0
            have gx0 := keepc hb1 (keepc hb.out hx0)
            clear hx0 hx1
            by_cases hq : (rd_T50 l0 0).f0 = 0
            all_goals
              have HQ := Aside0.mk hq
              clear hq
            · have q1 : ((rd_T50 l0 0).f0 != 0) = false := bne_eq_false_iff_eq.mpr HQ.out
              go_wp2
              repeat (go_quiet (fail); try go_wp2)
              go_ret
              refine ⟨reti ?_, by have hb2 := bstep hb.out hb1; repeat (first | exact hb2 | apply below_drew1 | apply pw_below_drewN)⟩
              rw [← H.out]
              unfold checkT
              have ne : l0 ≠ [] := fun e => by have := HL.out; rw [e] at this; exact absurd this (by simp)
              rw [if_neg c1, NB.out, BA.out]
              simp [ne, HQ.out]
            · have q1 : ((rd_T50 l0 0).f0 != 0) = true := bne_iff_ne.mpr HQ.out
              go_wp2
              repeat (go_quiet (fail); try go_wp2)
              go_ret
              refine ⟨reti ?_, by have hb2 := bstep hb.out hb1; repeat (first | exact hb2 | apply below_drew1 | apply pw_below_drewN)⟩
              rw [← H.out]
              unfold checkT
              have ne : l0 ≠ [] := fun e => by have := HL.out; rw [e] at this; exact absurd this (by simp)
              rw [if_neg c1, NB.out, BA.out]
              simp [ne, HQ.out]
          · have hd : decide (0 < l0.length) = false := decide_eq_false HL.out
            go_wp2
            repeat (go_quiet (fail); try go_wp2)
            go_ret
            refine ⟨reti ?_, (by have hb2 := bstep hb.out hb1; repeat (first | exact hb2 | apply below_drew1 | apply pw_below_drewN))⟩
            rw [← H.out]
            unfold checkT
            have : l0 = [] := List.length_eq_zero_iff.1 (by have := HL.out; omega)
            rw [if_neg c1, NB.out, BA.out]
            simp [this]
end Go.Proofs.Ytlmabdiodopidaa.G
end
section
set_option linter.unusedVariables false
set_option linter.unusedSimpArgs false
namespace Go.RowKit
open Go
variable {P : Program}
theorem Below.setCells {B : Nat} {w : World} (b : Nat) (hb : B ≤ b) : ∀ (vs : List Value) (o : Nat) {W : World}, Below B w W → Below B w (W.setCells b o vs)
  | [], _, _, h => h
  | v :: vs, o, W, h => by
    rw [World.setCells]
    exact Below.setCells b hb vs (o + 1) (h.setCell (p := ⟨b, o, none⟩) hb v)
theorem heap_setCells (b k : Nat) (hk : k ≠ b) : ∀ (vs : List Value) (o : Nat) (W : World), (W.setCells b o vs).heap[k]? = W.heap[k]?
  | [], _, _ => rfl
  | v :: vs, o, W => by
    rw [World.setCells, heap_setCells b k hk vs, Below.heap_setCell W ⟨b, o, none⟩ v k hk]
theorem size_setCells (b : Nat) : ∀ (vs : List Value) (o : Nat) (W : World), (W.setCells b o vs).heap.size = W.heap.size
  | [], _, _ => rfl
  | v :: vs, o, W => by
    rw [World.setCells, size_setCells b vs]
    simp
/-- the cells cs are block g of W -/
structure Blk (W : World) (g : Nat) (cs : List Value) (t : Nat) : Prop where
  out : W.heap[g]? = some (.cells cs.toArray t (0, 0))
theorem Blk.new (W : World) (cs : List Value) (t : Nat) : Blk (W.alloc (.cells cs.toArray t)) W.heap.size cs t := ⟨heap_alloc_last W _⟩
theorem Blk.newAt (W : World) {g : Nat} (hg : g = W.heap.size) (cs : List Value) (t : Nat) : Blk (W.alloc (.cells cs.toArray t)) g cs t := by rw [hg]; exact Blk.new W cs t
theorem Blk.lt {W : World} {g t : Nat} {cs : List Value} (h : Blk W g cs t) : g < W.heap.size := (Array.getElem?_eq_some_iff.1 h.out).1
theorem Blk.alloc {W : World} {g t : Nat} {cs : List Value} (h : Blk W g cs t) (o : Obj) : Blk (W.alloc o) g cs t := ⟨(Below.heap_alloc W o g h.lt).trans h.out⟩
theorem Blk.below {W W1 : World} {g t : Nat} {cs : List Value} (h : Blk W g cs t) (hb : Below W.heap.size W W1) : Blk W1 g cs t := ⟨(hb.block g h.lt).trans h.out⟩
theorem Blk.belowN {W W1 : World} {g t n : Nat} {cs : List Value} (h : Blk W g cs t) (hb : Below n W W1) (hg : g < n) : Blk W1 g cs t := ⟨(hb.block g hg).trans h.out⟩
theorem Blk.drewN {W : World} {g t n : Nat} {cs : List Value} (h : Blk W g cs t) : Blk (W.drewN n) g cs t := h.below (Go.Proofs.YtlmabdiodopidaaW.PrintWords.pw_below_drewN (Below.refl _ _) n)
theorem Blk.drew {W : World} {g t : Nat} {cs : List Value} (h : Blk W g cs t) : Blk W.drew g cs t := h.below (Below.refl _ _).drew
theorem Blk.set {W : World} {g t : Nat} {cs : List Value} (h : Blk W g cs t) {p : Addr} (hp : g ≠ p.block) (u : Value) : Blk (W.setCell p u) g cs t := ⟨(Below.heap_setCell W p u g hp).trans h.out⟩
theorem Blk.sets {g t : Nat} {cs : List Value} (b : Nat) (hp : g ≠ b) : ∀ (vs : List Value) (o : Nat) {W : World}, Blk W g cs t → Blk (W.setCells b o vs) g cs t
  | [], _, _, h => h
  | v :: vs, o, W, h => by
    rw [World.setCells]
    exact Blk.sets b hp vs (o + 1) (h.set (p := ⟨b, o, none⟩) hp v)
theorem Blk.frozen {W : World} {g t : Nat} {cs : List Value} (h : Blk W g cs t) (j : Nat) : W.frozen? ⟨g, j, none⟩ = false := by simp [World.frozen?, h.out]
theorem Blk.setc {W : World} {g t : Nat} {cs : List Value} (h : Blk W g cs t) (j : Nat) (v : Value) : Blk (W.setCell ⟨g, j, none⟩ v) g (cs.set j v) t := ⟨by
  rw [Go.Proofs.YtlmabdiodopidaaW.PrintWords.blk_set h.out j v]
  simp⟩
theorem Blk.cell {W : World} {g t : Nat} {cs : List Value} (h : Blk W g cs t) (j : Nat) : W.cell? ⟨g, j, none⟩ = cs[j]? := by
  rw [cell_of_row W g j cs.toArray t (0, 0) h.out]
  simp
theorem Blk.range {W : World} {g t : Nat} {cs : List Value} (h : Blk W g cs t) : W.rangeAt g 0 cs := fun j v hv => by
  rw [Nat.zero_add, h.cell]
  exact hv
theorem Blk.there {W : World} {g t : Nat} {cs : List Value} (h : Blk W g cs t) (n : Nat) (hn : n = cs.length) : W.there g 0 n := fun j hj => by
  rw [Nat.zero_add, h.cell]
  refine ⟨by rw [List.getElem?_eq_getElem (by omega)]; rfl, ?_⟩
  simp [World.frozen?, h.out]
theorem Blk.stored {W : World} {g t : Nat} {cs : List Value} (h : Blk W g cs t) (vs : List Value) (hn : vs.length = cs.length) : Blk (W.setCells g 0 vs) g vs t := by
  have key : ∀ (vs pre : List Value) (W : World) (cs : List Value), Blk W g cs t → (∀ j (_ : j < pre.length), cs[j]? = pre[j]?) → pre.length + vs.length = cs.length → Blk (W.setCells g pre.length vs) g (pre ++ vs) t := by
    intro vs
    induction vs with
    | nil =>
      intro pre W cs h hp hl
      have : cs = pre := by
        apply List.ext_getElem?
        intro i
        by_cases hi : i < pre.length
        · exact hp i hi
        · rw [List.getElem?_eq_none (by simp at hl; omega), List.getElem?_eq_none (by omega)]
      rw [World.setCells, List.append_nil, ← this]
      exact h
    | cons v vs ih =>
      intro pre W cs h hp hl
      rw [World.setCells]
      have h1 : Blk (W.setCell ⟨g, pre.length, none⟩ v) g (cs.set pre.length v) t := ⟨by
        have := Go.Proofs.YtlmabdiodopidaaW.PrintWords.blk_set h.out pre.length v
        rw [this]
        simp⟩
      have := ih (pre ++ [v]) _ _ h1 (fun j hj => by
        simp at hj
        by_cases hj' : j = pre.length
        · subst hj'
          rw [List.getElem?_set_self (by simp at hl; omega)]
          simp
        · rw [List.getElem?_set_ne (by omega), hp j (by omega), List.getElem?_append_left (by omega)]) (by simp at hl ⊢; omega)
      simpa using this
  have := key vs [] W cs h (fun j hj => by simp at hj) (by simpa using hn)
  simpa using this
/-- the cells from address a on -/
def Rng (W : World) (a : Addr) (cs : List Value) : Prop := ∀ j v, cs[j]? = some v → W.cell? (a.add j) = some v
theorem Rng.below {W W1 : World} {a : Addr} {cs : List Value} (h : Rng W a cs) (hb : Below W.heap.size W W1) : Rng W1 a cs := fun j v hj => (hb.cell (World.block_lt_of_cell? W _ (h j v hj))).trans (h j v hj)
theorem Rng.at0 {W : World} {a : Addr} {cs : List Value} (h : Rng W a cs) {v : Value} (hv : cs[0]? = some v) : W.cell? a = some v := by
  have := h 0 v hv
  simpa [Addr.add] using this
theorem Rng.at_ {W : World} {a : Addr} {cs : List Value} (h : Rng W a cs) (j : Nat) (hj : 0 < j) {v : Value} (hv : cs[j]? = some v) : W.cell? ⟨a.block, a.off + j, none⟩ = some v := by
  have := h j v hv
  rw [show a.add j = ⟨a.block, a.off + j, none⟩ by unfold Addr.add; rw [if_neg (by omega)]] at this
  exact this
theorem Blk.rng {W : World} {g t : Nat} {cs : List Value} (h : Blk W g cs t) : Rng W ⟨g, 0, none⟩ cs := fun j v hj => by
  rw [Addr.add_mid, Nat.zero_add, h.cell]
  exact hj
/-- part of a row -/
theorem Rng.part {W : World} {a : Addr} {cs : List Value} (h : Rng W a cs) (o n : Nat) : Rng W (a.add o) ((cs.drop o).take n) := fun j v hj => by
  rw [Go.Deep.add_add]
  apply h
  rw [List.getElem?_take] at hj
  split at hj
  · simpa using hj
  · cases hj
theorem run_load_rng (w : World) (a : Addr) (ty : TypeId) (cs : List Value) {d : TypeDesc} (hc : Rng w a cs)
    (hu : P.underlying ty = some d) (hd : d.isRow = true) (hi : (P.info? ty).map (·.size) = some cs.length) :
    (loadVar ty a).run P w = .ok (.agg cs.toArray) w := by
  have hl : (loadCells a cs.length).run P w = .ok cs.toArray w := run_loadCells_list (P := P) w a cs hc
  cases hq : P.info? ty with
  | none => simp [hq] at hi
  | some i =>
    have hs : i.size = cs.length := by simpa [hq] using hi
    have hagg : (isAgg ty).run P w = .ok true w := by
      unfold isAgg
      rw [Sem.run_bind, run_underlying hu w]
      cases d <;> simp_all
    simp [loadVar, Sem.run_bind, hagg, sizeOf, typeInfo, hq, hs, hl]
theorem run_loadAt_rng (w : World) (a : Addr) (ty : TypeId) (cs : List Value) {d : TypeDesc} (hc : Rng w a cs)
    (hu : P.underlying ty = some d) (hd : d.isRow = true) (hi : (P.info? ty).map (·.size) = some cs.length) :
    (Instr.loadAt ty (.pointer (some a))).run P w = .ok (.agg cs.toArray) w := by
  simp only [Instr.loadAt, Instr.sureAddr, Sem.run_bind, Sem.run_pure, Result.andThen_ok, run_load_rng w a ty cs hc hu hd hi]
theorem wp_load_rng {o : Oper} {a : Act} {w : World} {K : Act → World → Prop} {Q : Exit → Act → World → Prop} (ty : TypeId) (x : Operand) (ho : o.op = .load ty x)
    {p : Addr} (hx : a.eval x = .pointer (some p)) {cs : List Value} {d : TypeDesc} (hc : Rng w p cs)
    (hu : P.underlying ty = some d) (hd : d.isRow = true) (hi : (P.info? ty).map (·.size) = some cs.length)
    (h : K (a.put o.dst (.agg cs.toArray)) w) : o.wp P a w K Q := by
  unfold Oper.wp execOp
  simp only [ho, hx, run_loadAt_rng w p ty cs hc hu hd hi, Sem.run_bind, Sem.run_pure, Result.andThen_ok]
  exact h
/-- a whole struct is read -/
theorem ld_rng {ops : Array Oper} {rest : List Oper} {op : Oper} {a : Act} {w : World} {Q : Exit → Act → World → Prop} (hgd : op.guard = none) (ty : TypeId) (x : Operand) (ho : op.op = .load ty x) {p : Addr} (hx : a.eval x = .pointer (some p)) {cs : List Value} (hb : Rng w p cs) {d : TypeDesc}
    (hu : P.underlying ty = some d) (hd : d.isRow = true) (hi : (P.info? ty).map (·.size) = some cs.length) (h : wpList P ops Q rest (a.put op.dst (.agg cs.toArray)) w) : wpList P ops Q (op :: rest) a w :=
  wpList_plain hgd fun _ hK => wp_load_rng ty x ho hx hb hu hd hi (hK _ _ h)
/-- a whole struct is written -/
theorem st_blk {ops : Array Oper} {rest : List Oper} {op : Oper} {a : Act} {w : World} {Q : Exit → Act → World → Prop} (hgd : op.guard = none) (ty : TypeId) (x y : Operand) (ho : op.op = .store ty x y) (hdst : op.dst = none) {g t : Nat} {cs vs : List Value} (hx : a.eval x = .pointer (some ⟨g, 0, none⟩)) (hy : a.eval y = .agg vs.toArray) (hb : Blk w g cs t) (hl : vs.length = cs.length) (hi : (P.info? ty).map (·.size) = some vs.length) (h1 : ∀ v ∈ vs, v.oneCell' = true)
    (h : Blk (w.setCells g 0 vs) g vs t → wpList P ops Q rest a (w.setCells g 0 vs)) : wpList P ops Q (op :: rest) a w :=
  wpList_store_mid hgd ty x y ho g 0 vs.toArray hx hy (hb.there _ (by simpa using hl)) (by simpa using hi) (all_oneCell_toArray h1) (by rw [hdst]; exact h (hb.stored vs hl))
theorem ext_world {a b : World} (h : a.heap = b.heap) (h1 : a = { b with heap := a.heap }) : a = b := by rw [h1, h]
theorem setCells_only (b : Nat) : ∀ (vs : List Value) (o : Nat) (W : World), W.setCells b o vs = { W with heap := (W.setCells b o vs).heap }
  | [], _, _ => rfl
  | v :: vs, o, W => by
    rw [World.setCells]
    have := setCells_only b vs (o + 1) (W.setCell ⟨b, o, none⟩ v)
    rw [this]
    simp [World.setCell]
theorem setCells_new (W : World) (cs vs : List Value) (t : Nat) (hl : vs.length = cs.length) : (W.alloc (.cells cs.toArray t)).setCells W.heap.size 0 vs = W.alloc (.cells vs.toArray t) := by
  refine ext_world ?_ ?_
  · apply Array.ext_getElem?
    intro i
    have h1 := (Blk.stored (Blk.new W cs t) vs hl).out
    by_cases hi : i = W.heap.size
    · subst hi
      rw [h1, (Blk.new W vs t).out]
    · by_cases hi2 : i < W.heap.size
      · have := (Below.setCells (w := W) W.heap.size (Nat.le_refl _) vs 0 (W := W.alloc (.cells cs.toArray t)) ((Below.refl _ _).alloc (Nat.le_refl _) _)).block i hi2
        rw [this, ((Below.refl W.heap.size W).alloc (Nat.le_refl _) (.cells vs.toArray t)).block i hi2]
      · rw [Array.getElem?_eq_none (by rw [size_setCells]; simp; omega), Array.getElem?_eq_none (by simp; omega)]
  · exact (setCells_only _ _ _ _).trans rfl
/-- a whole struct is written into the newest block -/
theorem st_new {ops : Array Oper} {rest : List Oper} {op : Oper} {a : Act} {W : World} {Q : Exit → Act → World → Prop} (hgd : op.guard = none) (ty : TypeId) (x y : Operand) (ho : op.op = .store ty x y) (hdst : op.dst = none) {t : Nat} {cs vs : List Value} (hx : a.eval x = .pointer (some ⟨W.heap.size, 0, none⟩)) (hy : a.eval y = .agg vs.toArray) (hl : vs.length = cs.length) (hi : (P.info? ty).map (·.size) = some vs.length) (h1 : ∀ v ∈ vs, v.oneCell' = true)
    (h : wpList P ops Q rest a (W.alloc (.cells vs.toArray t))) : wpList P ops Q (op :: rest) a (W.alloc (.cells cs.toArray t)) :=
  st_blk hgd ty x y ho hdst hx hy (Blk.new W cs t) hl hi h1 (fun _ => by rw [setCells_new W cs vs t hl]; exact h)
theorem st_newAt {ops : Array Oper} {rest : List Oper} {op : Oper} {a : Act} {W : World} {Q : Exit → Act → World → Prop} (hgd : op.guard = none) (ty : TypeId) (x y : Operand) (ho : op.op = .store ty x y) (hdst : op.dst = none) {g t : Nat} {cs vs : List Value} (hx : a.eval x = .pointer (some ⟨g, 0, none⟩)) (hy : a.eval y = .agg vs.toArray) (hg : g = W.heap.size) (hl : vs.length = cs.length) (hi : (P.info? ty).map (·.size) = some vs.length) (h1 : ∀ v ∈ vs, v.oneCell' = true)
    (h : wpList P ops Q rest a (W.alloc (.cells vs.toArray t))) : wpList P ops Q (op :: rest) a (W.alloc (.cells cs.toArray t)) := by
  subst hg
  exact st_new hgd ty x y ho hdst hx hy hl hi h1 h
/-- the element of a slice, whole -/
theorem row_at {α : Type} {d : Go.Proofs.YtlmabdiodopidaaW.PrintWords.Kd α} {w : World} {A : Option Addr} {n : Nat} {xs : List α} (h : d.C w A n xs) (z : α) (i : Int) (h0 : 0 ≤ i) (h1 : i < n) :
    ∃ ad cs, A = some ad ∧ cs.length = d.sz ∧ d.K w (xs.getD i.toNat z) cs ∧ Rng w (ad.add (i.toNat * d.sz)) cs := by
  obtain ⟨ad, c, e, hl, hK, hc⟩ := Go.Proofs.YtlmabdiodopidaaW.PrintWords.Kd.C_get h z i h0 h1
  exact ⟨ad, c, e, hl, hK, fun j u hj => by rw [Go.Deep.add_add]; exact hc j u hj⟩
/-- a result that is a struct -/
theorem ret_cell {fn : Func} {p : Tmp} {ty : TypeId} (h : fn.results = #[.cell p ty]) (tmps : Array Value) (w : World) {g t : Nat} {cs : List Value} {d : TypeDesc} (hp : tmps.getD p undef = .pointer (some ⟨g, 0, none⟩)) (hb : Blk w g cs t)
    (hu : P.underlying ty = some d) (hd : d.isRow = true) (hi : (P.info? ty).map (·.size) = some cs.length) : (results fn tmps).run P w = .ok (.agg cs.toArray) w := by
  have hp' : tmps[p]?.getD undef = .pointer (some ⟨g, 0, none⟩) := by simpa using hp
  simp [results, h, hp', asAddr, run_load_rng w _ ty cs hb.rng hu hd hi]
/-- two results, the first a struct -/
theorem ret_cell_tmp {fn : Func} {p q : Tmp} {ty : TypeId} (h : fn.results = #[.cell p ty, .tmp q]) (tmps : Array Value) (w : World) {g t : Nat} {cs : List Value} {d : TypeDesc} {u : Value} (hp : tmps.getD p undef = .pointer (some ⟨g, 0, none⟩)) (hq : tmps.getD q undef = u) (hb : Blk w g cs t)
    (hu : P.underlying ty = some d) (hd : d.isRow = true) (hi : (P.info? ty).map (·.size) = some cs.length) : (results fn tmps).run P w = .ok (.tuple #[.agg cs.toArray, u]) w := by
  have hp' : tmps[p]?.getD undef = .pointer (some ⟨g, 0, none⟩) := by simpa using hp
  have hq' : tmps[q]?.getD undef = u := by simpa using hq
  simp [results, h, hp', hq', asAddr, run_load_rng w _ ty cs hb.rng hu hd hi]
/-- three results, two of them structs -/
theorem ret_cell2_tmp {fn : Func} {p p' q : Tmp} {ty ty' : TypeId} (h : fn.results = #[.cell p ty, .cell p' ty', .tmp q]) (tmps : Array Value) (w : World) {g t g' t' : Nat} {cs cs' : List Value} {d d' : TypeDesc} {u : Value} (hp : tmps.getD p undef = .pointer (some ⟨g, 0, none⟩)) (hp2 : tmps.getD p' undef = .pointer (some ⟨g', 0, none⟩)) (hq : tmps.getD q undef = u) (hb : Blk w g cs t) (hb2 : Blk w g' cs' t')
    (hu : P.underlying ty = some d) (hd : d.isRow = true) (hi : (P.info? ty).map (·.size) = some cs.length) (hu2 : P.underlying ty' = some d') (hd2 : d'.isRow = true) (hi2 : (P.info? ty').map (·.size) = some cs'.length) : (results fn tmps).run P w = .ok (.tuple #[.agg cs.toArray, .agg cs'.toArray, u]) w := by
  have hp' : tmps[p]?.getD undef = .pointer (some ⟨g, 0, none⟩) := by simpa using hp
  have hp2' : tmps[p']?.getD undef = .pointer (some ⟨g', 0, none⟩) := by simpa using hp2
  have hq' : tmps[q]?.getD undef = u := by simpa using hq
  simp [results, h, hp', hp2', hq', asAddr, run_load_rng w _ ty cs hb.rng hu hd hi, run_load_rng w _ ty' cs' hb2.rng hu2 hd2 hi2]
/-- two numbers of two cells are written -/
structure Put2 (W W' : World) (g5 g6 : Nat) (x0 x1 y0 y1 : Value) : Prop where
  five : Blk W' g5 [x0, x1] 35
  six : Blk W' g6 [y0, y1] 35
  other : ∀ g cs t, g ≠ g5 → g ≠ g6 → Blk W g cs t → Blk W' g cs t
  below : ∀ B w, B ≤ g5 → B ≤ g6 → Below B w W → Below B w W'
theorem put2 {W : World} {g5 g6 : Nat} {a b c d : Value} (h5 : Blk W g5 [a, b] 35) (h6 : Blk W g6 [c, d] 35) (hne : g5 ≠ g6) (x0 x1 y0 y1 : Value) : Put2 W (((((W.setCell ⟨g5, 0, none⟩ x0).setCell ⟨g5, 1, none⟩ x1).setCell ⟨g6, 0, none⟩ y0).setCell ⟨g6, 1, none⟩ y1)) g5 g6 x0 x1 y0 y1 where
  five := (((h5.setc 0 x0).setc 1 x1).set (p := ⟨g6, 0, none⟩) hne y0).set (p := ⟨g6, 1, none⟩) hne y1
  six := ((((h6.set (p := ⟨g5, 0, none⟩) hne.symm x0).set (p := ⟨g5, 1, none⟩) hne.symm x1).setc 0 y0).setc 1 y1)
  other := fun g cs t h h' hb => (((hb.set (p := ⟨g5, 0, none⟩) h x0).set (p := ⟨g5, 1, none⟩) h x1).set (p := ⟨g6, 0, none⟩) h' y0).set (p := ⟨g6, 1, none⟩) h' y1
  below := fun B w h h' hb => (((hb.setCell (p := ⟨g5, 0, none⟩) h x0).setCell (p := ⟨g5, 1, none⟩) h x1).setCell (p := ⟨g6, 0, none⟩) h' y0).setCell (p := ⟨g6, 1, none⟩) h' y1
theorem Put2.drew {W W' : World} {g5 g6 : Nat} {x0 x1 y0 y1 : Value} (h : Put2 W W' g5 g6 x0 x1 y0 y1) : Put2 W W'.drew g5 g6 x0 x1 y0 y1 := ⟨h.five.drew, h.six.drew, fun g cs t a b c => (h.other g cs t a b c).drew, fun B w a b c => (h.below B w a b c).drew⟩
end Go.RowKit
end
section
set_option linter.unusedVariables false
set_option linter.unusedSimpArgs false
namespace Go.Proofs.Ytlmabdiodopidaa.G
open Go.RowKit Go.Proofs.YtlmabdiodopidaaW.PrintWords Go.Proofs.YtlmabdiodopidaaW.PrintLast Go.Proofs.YtlmabdiodopidaaW.PrintMore Go.Proofs.Ytlmabdiodopidaa.P

theorem idx1_calls (x : Acc) (B : Nat) (id : Int) (w : World) (hB : B < w.heap.size) (hc : w.cell? ⟨B, 0, none⟩ = some (.int .i64 id)) :
    Calls Try.prog 87 #[.agg #[.int .i64 x.id, .int .i64 x.opened, .int .i64 x.closed, x.r3, x.r4, .string x.prod, x.r6], .pointer (some ⟨B, 0, none⟩)] w fun e w' => e = .returned (.bool (x.id == id)) ∧ Below w.heap.size w w' := by
  have hc1 := keepc ((Below.refl w.heap.size w).alloc (Nat.le_refl _) (.cells #[.int .i64 x.id, .int .i64 x.opened, .int .i64 x.closed, x.r3, x.r4, .string x.prod, x.r6] 101)) hc
  go_enter Try.func87, Try.ntmps87
  go_wp2
  go_ret
  exact ⟨rfl, bel⟩
/-- the index of the first account with an id, from place i on -/
def ixFrom (id : Int) : Int → List Acc → Int
  | _, [] => -1
  | i, x :: l => if x.id = id then i else ixFrom id (i + 1) l
theorem rdAcc_drop {l : List Acc} {x : Int} (h0 : 0 ≤ x) (h1 : x < l.length) : l.drop x.toNat = rdAcc l x :: l.drop (x + 1).toNat := by
  unfold rdAcc
  rw [List.getD_eq_getElem?_getD, List.getElem?_eq_getElem (by omega), Option.getD_some, show (x + 1).toNat = x.toNat + 1 by omega]
  exact List.drop_eq_getElem_cons (by omega)
set_option maxHeartbeats 1000000 in
theorem ixf_calls (A : Option Addr) (c : Nat) (l : List Acc) (B : Nat) (id : Int) (w : World) (hr : Kd.C kAcc w A l.length l) (hl : l.length ≤ 9223372036854775807) (hB : B < w.heap.size) (hc : w.cell? ⟨B, 0, none⟩ = some (.int .i64 id)) :
    Calls Try.prog 86 #[.slice A l.length c, .func (.func 87) #[] #[.pointer (some ⟨B, 0, none⟩)]] w fun e w' => e = .returned (.int .i64 (ixFrom id 0 l)) ∧ Below w.heap.size w w' := by
  have HR := Aside0.mk hr
  have HC := Aside0.mk hc
  clear hr hc
  go_enter Try.func86, Try.ntmps86
  go_wp2
  go_loopw [8] (fun i wr => ∃ x : Int, 0 ≤ x ∧ x ≤ l.length ∧ i = .int .i64 x ∧ Aside0 (Below w.heap.size w wr) ∧ Aside0 (ixFrom id 0 l = ixFrom id x (l.drop x.toNat))) (fun i _ => l.length - (intOf i).toNat)
  case atStart => exact ⟨0, by omega, by omega, rfl, ⟨Below.refl _ _⟩, ⟨rfl⟩⟩
  case round =>
    obtain ⟨x, k1, k2, rfl, hb, ha⟩ := hrel
    have hcw := keepc hb.out HC.out
    have hBw : B < wr.heap.size := Nat.lt_of_lt_of_le hB hb.out.size
    by_cases hlt : x < l.length
    · obtain ⟨ad, rfl, e0, e1, e2, e3, e4, e5, e6⟩ := atAcc HR.out x k1 hlt
      have g0 := keepc hb.out e0
      have g1 := keepc hb.out e1
      have g2 := keepc hb.out e2
      have g3 := keepc hb.out e3
      have g4 := keepc hb.out e4
      have g5 := keepc hb.out e5
      have g6 := keepc hb.out e6
      clear e0 e1 e2 e3 e4 e5 e6
      have step := rdAcc_drop k1 hlt
      have STEP := Aside0.mk step
      clear step
      cases hq : ((rdAcc l x).id == id)
      all_goals
        go_wp2_with fail
        refine (idx1_calls (rdAcc l x) B id _ hBw hcw).mono ?_
        rintro e w1 ⟨rfl, hb1⟩
        rw [hq]
        go_wp2
      · go_roundw
        case rel => exact ⟨x + 1, by omega, by omega, by go_num, ⟨bstep hb.out hb1⟩, ⟨by rw [ha.out, STEP.out, ixFrom, if_neg (by simpa using hq)]⟩⟩
        case measure => simp [intOf]; omega
      · go_ret
        exact ⟨reti (by rw [ha.out, STEP.out, ixFrom, if_pos (by simpa using hq)]), bstep hb.out hb1⟩
    · go_wp2
      go_ret
      exact ⟨reti (by rw [ha.out, List.drop_eq_nil_of_le (by omega)]; rfl), hb.out⟩
/-! ### the books as a value -/
theorem bk_get {w : World} {b : Bk} {cs : List Value} (h : kBk.K w b cs) : ∃ A1 c1 A2 c2 A3 c3, cs.length = 22 ∧ cs[17]? = some (.slice A1 b.prods.length c1) ∧ cs[18]? = some (.slice A2 b.accs.length c2) ∧ cs[19]? = some (.slice A3 b.jour.length c3) ∧ Kd.C kPrd w A1 b.prods.length b.prods ∧ Kd.C kAcc w A2 b.accs.length b.accs ∧ Kd.C kEnt w A3 b.jour.length b.jour ∧ b.prods.length ≤ c1 ∧ b.accs.length ≤ c2 ∧ b.jour.length ≤ c3 := by
  obtain ⟨A1, c1, A2, c2, A3, c3, rfl, ⟨l1, h1⟩, ⟨l2, h2⟩, ⟨l3, h3⟩⟩ := kBk_open h
  exact ⟨A1, c1, A2, c2, A3, c3, rfl, rfl, rfl, rfl, h1, h2, h3, l1, l2, l3⟩
theorem acc_get {w : World} {x : Acc} {cs : List Value} (h : kAcc.K w x cs) : cs.length = 7 ∧ cs[0]? = some (.int .i64 x.id) ∧ cs[1]? = some (.int .i64 x.opened) ∧ cs[2]? = some (.int .i64 x.closed) ∧ cs[5]? = some (.string x.prod) := by
  obtain rfl := kAcc_open h
  exact ⟨rfl, rfl, rfl, rfl, rfl⟩
set_option maxHeartbeats 1000000 in
theorem index_calls (cs : List Value) (b : Bk) (id : Int) (w0 w : World) (hb0 : Below w0.heap.size w0 w) (hk : kBk.K w0 b cs) :
    Calls Try.prog 74 #[.agg cs.toArray, .int .i64 id] w fun e w' => e = .returned (.int .i64 (ixFrom id 0 b.accs)) ∧ Below w.heap.size w w' := by
  obtain ⟨A1, c1, A2, c2, A3, c3, hl, -, g2, -, -, ha, -, -, -, -⟩ := bk_get hk
  have HA := Aside0.mk (Kd.C_below ha hb0)
  clear hk ha hl hb0
  go_enter Try.func74, Try.ntmps74
  go_wp2_with (first | (go_at_call 86; refine (ixf_calls _ _ _ _ id _ (Kd.C_below HA.out (((Below.refl w.heap.size w).alloc (Nat.le_refl _) _).alloc (by simp) _)) (Kd.C_max HA.out) (by simp) (by simp)).mono ?_; rintro e w1 ⟨rfl, hb1⟩))
  go_ret
  exact ⟨rfl, bstep (((Below.refl w.heap.size w).alloc (Nat.le_refl _) _).alloc (by simp) _) hb1⟩
/-- no account -/
def noAcc : Acc := ⟨0, 0, 0, .int .i64 0, .string ⟨#[]⟩, ⟨#[]⟩, .string ⟨#[]⟩⟩
abbrev zAccs : List Value := [.int .i64 0, .int .i64 0, .int .i64 0, .int .i64 0, .string ⟨#[]⟩, .string ⟨#[]⟩, .string ⟨#[]⟩]
theorem noAcc_K (w : World) : kAcc.K w noAcc zAccs := by
  exact ⟨_, _, rfl, rfl, _, _, rfl, rfl, _, _, rfl, rfl, _, _, rfl, ⟨rfl, rfl⟩, _, _, rfl, ⟨rfl, rfl⟩, _, _, rfl, rfl, ⟨rfl, rfl⟩⟩
/-- the account with an id -/
def findA (id : Int) (l : List Acc) : Acc × Bool := if ixFrom id 0 l < 0 then (noAcc, false) else (rdAcc l (ixFrom id 0 l), true)
theorem ixFrom_lt (id : Int) : ∀ (l : List Acc) (i : Int), 0 ≤ i → ixFrom id i l < i + l.length
  | [], i, h => by unfold ixFrom; simp; omega
  | x :: l, i, h => by
    unfold ixFrom
    have := ixFrom_lt id l (i + 1) (by omega)
    split <;> simp <;> omega
set_option maxHeartbeats 1000000 in
theorem find_calls (cs : List Value) (b : Bk) (id : Int) (w0 w : World) (hb0 : Below w0.heap.size w0 w) (hk : kBk.K w0 b cs) :
    Calls Try.prog 51 #[.agg cs.toArray, .int .i64 id] w fun e w' => ∃ ca, e = .returned (.tuple #[.agg ca.toArray, .bool (findA id b.accs).2]) ∧ kAcc.K w0 (findA id b.accs).1 ca ∧ Below w.heap.size w w' := by
  obtain ⟨A1, c1, A2, c2, A3, c3, hl, -, g2, -, -, ha, -, -, -, -⟩ := bk_get hk
  have HA := Aside0.mk ha
  have HK := Aside0.mk hk
  have HL := Aside0.mk hl
  have HB0 := Aside0.mk hb0
  clear hk ha hl hb0
  by_cases hi : ixFrom id 0 b.accs < 0
  · have e : findA id b.accs = (noAcc, false) := by unfold findA; rw [if_pos hi]
    rw [e]
    clear e
    go_enter Try.func51, Try.ntmps51
    go_wp2_with (first
      | (refine ld_rng rfl 63 _ rfl (p := ⟨w.heap.size, 0, none⟩) rfl (cs := cs) ?_ Try.underlying63 rfl ?_ ?_; (exact (((Blk.new _ _ _).alloc _).rng)); (rw [HL.out]; kernel_rfl))
      | (go_at_call 74; refine (index_calls cs b id w0 _ ?_ HK.out).mono ?_; (exact bstep HB0.out (((Below.refl w.heap.size w).alloc (Nat.le_refl _) _).alloc (by simp) _)); rintro e w1 ⟨rfl, hb1⟩; have B2 := (Blk.newAt (w.alloc (.cells cs.toArray 63)) (g := w.heap.size + 1) (by simp) zAccs 101).below hb1)
      | (refine st_blk rfl 101 _ _ rfl rfl (g := w.heap.size + 1) (vs := zAccs) rfl rfl B2 rfl ?_ (kAcc.K_one (noAcc_K w)) ?_; kernel_rfl; intro B3))
    exact bodyPost_ret (ret_cell_tmp Try.results51 _ _ rfl rfl B3 Try.underlying101 rfl (by kernel_rfl)) rfl ⟨_, rfl, noAcc_K _, Below.setCells _ (by omega) _ _ (bstep (((Below.refl w.heap.size w).alloc (Nat.le_refl _) _).alloc (by simp) _) hb1)⟩
  · have e : findA id b.accs = (rdAcc b.accs (ixFrom id 0 b.accs), true) := by unfold findA; rw [if_neg hi]
    have hlt := ixFrom_lt id b.accs 0 (by omega)
    obtain ⟨ad, ca, rfl, hcl, hcK, hcR⟩ := row_at HA.out zAcc (ixFrom id 0 b.accs) (by omega) (by omega)
    have h0 : 0 ≤ ixFrom id 0 b.accs := by omega
    have h1 : ixFrom id 0 b.accs < b.accs.length := by omega
    have E := Aside0.mk e
    have CL := Aside0.mk hcl
    have CK := Aside0.mk hcK
    have CR := Aside0.mk hcR
    clear e hlt hcl hcK hcR
    go_enter Try.func51, Try.ntmps51
    go_wp2_with (first
      | (refine ld_rng rfl 63 _ rfl (p := ⟨w.heap.size, 0, none⟩) rfl (cs := cs) ?_ Try.underlying63 rfl ?_ ?_; (exact (((Blk.new _ _ _).alloc _).rng)); (rw [HL.out]; kernel_rfl))
      | (go_at_call 74; refine (index_calls cs b id w0 _ ?_ HK.out).mono ?_; (exact bstep HB0.out (((Below.refl w.heap.size w).alloc (Nat.le_refl _) _).alloc (by simp) _)); rintro e w1 ⟨rfl, hb1⟩; have B2 := (Blk.newAt (w.alloc (.cells cs.toArray 63)) (g := w.heap.size + 1) (by simp) zAccs 101).below hb1; have c18 := ((((Blk.new w cs 63).alloc _).below hb1).cell 18).trans g2; have R1 := Aside0.mk ((CR.out.below HB0.out).below (bstep (((Below.refl w.heap.size w).alloc (Nat.le_refl _) _).alloc (by simp) _) hb1)))
      | (refine ld_rng rfl 101 _ rfl (p := ad.add ((ixFrom id 0 b.accs).toNat * 7)) rfl (cs := ca) R1.out Try.underlying101 rfl ?_ ?_; (rw [CL.out]; kernel_rfl))
      | (refine st_blk rfl 101 _ _ rfl rfl (g := w.heap.size + 1) (vs := ca) rfl rfl B2 CL.out ?_ (kAcc.K_one CK.out) ?_; (rw [CL.out]; kernel_rfl); intro B3))
    exact bodyPost_ret (ret_cell_tmp Try.results51 _ _ rfl rfl B3 Try.underlying101 rfl (by rw [CL.out]; kernel_rfl)) rfl (by
      rw [E.out]
      refine ⟨_, rfl, CK.out, ?_⟩
      · exact Below.setCells _ (by omega) _ _ (bstep (((Below.refl w.heap.size w).alloc (Nat.le_refl _) _).alloc (by simp) _) hb1))
end Go.Proofs.Ytlmabdiodopidaa.G
end
section
set_option linter.unusedVariables false
set_option linter.unusedSimpArgs false
namespace Go.Proofs.Ytlmabdiodopidaa.G
set_option maxRecDepth 100000
open Go.RowKit Go.Proofs.YtlmabdiodopidaaW.PrintWords Go.Proofs.YtlmabdiodopidaaW.PrintLast Go.Proofs.YtlmabdiodopidaaW.PrintMore Go.Proofs.Ytlmabdiodopidaa.P
/-- a better version than the one at place t -/
def betB (name : ByteArray) (day : Int) (l : List Prd) (t k : Int) : Bool := ((rdPrd l k).name.toList == name.toList) && (decide ((rdPrd l k).since ≤ day) && (decide (t < 0) || decide ((rdPrd l t).since < (rdPrd l k).since)))
/-- the best of the first versions -/
def bestTo (name : ByteArray) (day : Int) (l : List Prd) : Nat → Int
  | 0 => -1
  | k + 1 => if betB name day l (bestTo name day l k) k then k else bestTo name day l k
theorem bestTo_lt (name : ByteArray) (day : Int) (l : List Prd) : ∀ k : Nat, -1 ≤ bestTo name day l k ∧ bestTo name day l k < k
  | 0 => by unfold bestTo; omega
  | k + 1 => by
    have := bestTo_lt name day l k
    unfold bestTo
    split <;> omega
def zIntrs : List Value := [.slice none 0 0, .bool false, .int .i64 0, .int .i64 0, .bool false]
abbrev zPrds : List Value := [.string ⟨#[]⟩, .string ⟨#[]⟩, .string ⟨#[]⟩, .int .i64 0, .int .i64 0, .int .i64 0, .int .i64 0, .slice none 0 0, .bool false, .int .i64 0, .int .i64 0, .bool false, .slice none 0 0, .bool false, .int .i64 0, .int .i64 0, .bool false, .slice none 0 0, .slice none 0 0]
def noIntr : Intr := ⟨[], false, 0, .int .i64 0, .bool false⟩
/-- no version -/
def noPrd : Prd := ⟨⟨#[]⟩, .string ⟨#[]⟩, .string ⟨#[]⟩, 0, .int .i64 0, .int .i64 0, .int .i64 0, noIntr, noIntr, .slice none 0 0, .slice none 0 0⟩
theorem noIntr_K (w : World) : kIntr.K w noIntr zIntrs := ⟨_, _, rfl, ⟨none, 0, rfl, Nat.le_refl _, Kd.C_nil _ _⟩, _, _, rfl, rfl, _, _, rfl, rfl, _, _, rfl, ⟨rfl, rfl⟩, ⟨rfl, rfl⟩⟩
theorem noPrd_K (w : World) : kPrd.K w noPrd zPrds :=
  ⟨_, _, rfl, rfl, _, _, rfl, ⟨rfl, rfl⟩, _, _, rfl, ⟨rfl, rfl⟩, _, _, rfl, rfl, _, _, rfl, ⟨rfl, rfl⟩, _, _, rfl, ⟨rfl, rfl⟩, _, _, rfl, ⟨rfl, rfl⟩, zIntrs, _, rfl, noIntr_K w, zIntrs, _, rfl, noIntr_K w, _, _, rfl, ⟨rfl, rfl⟩, ⟨rfl, rfl⟩⟩
theorem prd_get {w : World} {x : Prd} {cs : List Value} (h : kPrd.K w x cs) : cs.length = 19 ∧ cs[0]? = some (.string x.name) ∧ cs[3]? = some (.int .i64 x.since) := by
  obtain ⟨A1, c1, A2, c2, rfl, -, -⟩ := kPrd_open h
  exact ⟨rfl, rfl, rfl⟩
/-- the version of a name that holds on a day -/
def atP (l : List Prd) (name : ByteArray) (day : Int) : Prd × Bool := if bestTo name day l l.length < 0 then (noPrd, false) else (rdPrd l (bestTo name day l l.length), true)
set_option maxHeartbeats 2000000 in
theorem cat_calls (A : Option Addr) (c : Nat) (l : List Prd) (name : ByteArray) (day : Int) (w0 w : World) (hb0 : Below w0.heap.size w0 w) (hr : Kd.C kPrd w0 A l.length l) :
    Calls Try.prog 89 #[.slice A l.length c, .string name, .int .i64 day] w fun e w' => ∃ cp, e = .returned (.tuple #[.agg cp.toArray, .bool (atP l name day).2]) ∧ kPrd.K w0 (atP l name day).1 cp ∧ Below w.heap.size w w' := by
  have hl := Kd.C_max hr
  have HR := Aside0.mk hr
  have HB0 := Aside0.mk hb0
  clear hr hb0
  go_enter Try.func89, Try.ntmps89
  go_wp2
  go_loopw [8, 13] (fun t i wr => ∃ x : Nat, x ≤ l.length ∧ i = .int .i64 x ∧ t = .int .i64 (bestTo name day l x) ∧ Aside0 (Below (w.heap.size + 1) (w.alloc (.cells zPrds.toArray 98)) wr)) (fun _ i _ => l.length - (intOf i).toNat)
  case atStart => exact ⟨0, by omega, rfl, rfl, ⟨Below.refl _ _⟩⟩
  case round =>
    obtain ⟨x, k1, rfl, rfl, hb⟩ := hrel
    have hbt := bestTo_lt name day l x
    by_cases hlt : x < l.length
    · obtain ⟨ad, cp, hA, hcl, hcK, hcR⟩ := row_at HR.out zPrd x (by omega) (by omega)
      subst hA
      obtain ⟨-, p0, p3⟩ := prd_get hcK
      have R1 := Aside0.mk ((hcR.below HB0.out).below (bstep ((Below.refl w.heap.size w).alloc (Nat.le_refl _) (.cells zPrds.toArray 98)) (hb.out.mono (by simp))))
      have CL := Aside0.mk hcl
      have CK := Aside0.mk hcK
      clear hcl hcK hcR
      go_upto_region 5 with (first
        | (refine ld_rng rfl 98 _ rfl (p := ad.add (x * 19)) rfl (cs := cp) R1.out Try.underlying98 rfl ?_ ?_; (rw [CL.out]; kernel_rfl))
        | (refine st_new rfl 98 _ _ rfl rfl (cs := zPrds) (vs := cp) rfl rfl CL.out ?_ (kPrd.K_one CK.out) ?_; (rw [CL.out]; kernel_rfl)))
      clear CL CK R1
      have q0 : cp[0]? = some (.string (rdPrd l x).name) := p0
      have q3 : cp[3]? = some (.int .i64 (rdPrd l x).since) := p3
      clear p0 p3
      have hB := hb.out.alloc (by have := hb.out.size; simp at this; omega) (.cells cp.toArray 98)
      have HB := Aside0.mk hB
      clear hB hb
      generalize hbb : bestTo name day l x = t at *
      generalize hpx : rdPrd l (x : Int) = px at *
      have HBB := Aside0.mk hbb
      have HPX := Aside0.mk hpx
      clear hbb hpx
      have goal1 : ∀ (bv : Int), (betB name day l t x = true → bv = x) → (betB name day l t x = false → bv = t) → bestTo name day l (x + 1) = bv := by
        intro bv h1 h2
        show (if betB name day l (bestTo name day l x) x = true then (x : Int) else bestTo name day l x) = bv
        rw [HBB.out]
        cases hq : betB name day l t x
        · rw [if_neg (by simp), h2 hq]
        · rw [if_pos rfl, h1 hq]
      have GO := Aside0.mk goal1
      clear goal1
      have f0 := ((Blk.new wr cp 98).cell 0).trans q0
      have f3 := ((Blk.new wr cp 98).cell 3).trans q3
      clear q0 q3
      generalize wr.alloc (.cells cp.toArray 98) = W at *
      generalize wr.heap.size = g at *
      have hbet : betB name day l t x = ((px.name.toList == name.toList) && (decide (px.since ≤ day) && (decide (t < 0) || decide ((rdPrd l t).since < px.since)))) := by unfold betB; rw [HPX.out]
      have BET := Aside0.mk hbet
      clear hbet
      have noW : ∀ n, Below (w.heap.size + 1) (w.alloc (.cells zPrds.toArray 98)) (W.drewN n) := fun n => pw_below_drewN HB.out n
      have NO := Aside0.mk noW
      clear noW
      cases c1 : px.name.toList == name.toList
      · have ev := GO.out t (by rw [BET.out, c1]; simp) (fun _ => rfl)
        have EV := Aside0.mk ev
        clear ev
        go_quiet (fail)
        go_wp2
        go_roundw
        case rel => exact ⟨x + 1, by omega, by go_num, by rw [EV.out], ⟨NO.out _⟩⟩
        case measure => simp [intOf]; omega
      · by_cases c2 : px.since ≤ day
        · by_cases c3 : t < 0
          · have ev := GO.out x (fun _ => rfl) (by rw [BET.out, c1]; simp [c2, c3])
            have EV := Aside0.mk ev
            clear ev
            go_quiet (fail)
            go_wp2
            go_roundw
            case rel => exact ⟨x + 1, by omega, by go_num, by rw [EV.out], ⟨NO.out _⟩⟩
            case measure => simp [intOf]; omega
          · obtain ⟨ad', ct, hA', tl, tK, tR⟩ := row_at HR.out zPrd t (by omega) (by omega)
            cases hA'
            obtain ⟨-, -, t3⟩ := prd_get tK
            have g3 := ((tR.below HB0.out).below (((Below.refl w.heap.size w).alloc (Nat.le_refl _) (.cells zPrds.toArray 98)).trans (HB.out.mono (by simp)))).at_ 3 (by omega) t3
            have h3 : W.cell? ⟨(ad.add (t.toNat * 19)).block, (ad.add (t.toNat * 19)).off + 3, none⟩ = some (.int .i64 (rdPrd l t).since) := g3
            clear tl tK tR t3 g3
            have c3' : decide (t < 0) = false := by simpa using c3
            have t0 : 0 ≤ t := by omega
            have t1 : t < l.length := by omega
            generalize rdPrd l t = pt at *
            by_cases c4 : pt.since < px.since
            · have ev := GO.out x (fun _ => rfl) (by rw [BET.out, c1]; simp [c2, c4])
              have EV := Aside0.mk ev
              clear ev
              go_quiet (fail)
              go_wp2
              go_roundw
              case rel => exact ⟨x + 1, by omega, by go_num, by rw [EV.out], ⟨NO.out _⟩⟩
              case measure => simp [intOf]; omega
            · have ev := GO.out t (by rw [BET.out, c1]; simp [c2, c3, c4]) (fun _ => rfl)
              have EV := Aside0.mk ev
              clear ev
              have c4' : decide (pt.since < px.since) = false := by simpa using c4
              clear c4
              go_quiet (fail)
              go_wp2
              go_roundw
              case rel => exact ⟨x + 1, by omega, by go_num, by rw [EV.out], ⟨NO.out _⟩⟩
              case measure => simp [intOf]; omega
        · have c2' : decide (px.since ≤ day) = false := by simpa using c2
          have ev := GO.out t (by rw [BET.out, c1]; simp [c2]) (fun _ => rfl)
          have EV := Aside0.mk ev
          clear ev c2
          go_quiet (fail)
          go_wp2
          go_roundw
          case rel => exact ⟨x + 1, by omega, by go_num, by rw [EV.out], ⟨NO.out _⟩⟩
          case measure => simp [intOf]; omega
    · have B2 := (Blk.new w zPrds 98).belowN hb.out (by omega)
      have hxl : x = l.length := by omega
      have hb2 : Below w.heap.size w wr := ((Below.refl w.heap.size w).alloc (Nat.le_refl _) _).trans (hb.out.mono (by omega))
      have HB := Aside0.mk hb2
      clear hb2
      by_cases hn : bestTo name day l x < 0
      · have e : atP l name day = (noPrd, false) := by unfold atP; rw [← hxl, if_pos hn]
        have E := Aside0.mk e
        clear e hxl
        go_wp2_with (refine st_blk rfl 98 _ _ rfl rfl (g := w.heap.size) (vs := zPrds) rfl rfl B2 rfl ?_ (kPrd.K_one (noPrd_K w)) ?_; kernel_rfl; intro B3)
        exact bodyPost_ret (ret_cell_tmp Try.results89 _ _ rfl rfl B3 Try.underlying98 rfl (by kernel_rfl)) rfl (by rw [E.out]; exact ⟨_, rfl, noPrd_K _, Below.setCells _ (by omega) _ _ HB.out⟩)
      · have e : atP l name day = (rdPrd l (bestTo name day l x), true) := by unfold atP; rw [← hxl, if_neg hn]
        obtain ⟨ad, cp, hA, hcl, hcK, hcR⟩ := row_at HR.out zPrd (bestTo name day l x) (by omega) (by omega)
        subst hA
        have h0 : 0 ≤ bestTo name day l x := by omega
        have h1 : bestTo name day l x < l.length := by omega
        have R1 := Aside0.mk ((hcR.below HB0.out).below HB.out)
        have CL := Aside0.mk hcl
        have CK := Aside0.mk hcK
        have E := Aside0.mk e
        clear e hxl hcl hcK hcR
        go_wp2_with (first
          | (refine ld_rng rfl 98 _ rfl (p := ad.add ((bestTo name day l x).toNat * 19)) rfl (cs := cp) R1.out Try.underlying98 rfl ?_ ?_; (rw [CL.out]; kernel_rfl))
          | (refine st_blk rfl 98 _ _ rfl rfl (g := w.heap.size) (vs := cp) rfl rfl B2 CL.out ?_ (kPrd.K_one CK.out) ?_; (rw [CL.out]; kernel_rfl); intro B3))
        exact bodyPost_ret (ret_cell_tmp Try.results89 _ _ rfl rfl B3 Try.underlying98 rfl (by rw [CL.out]; kernel_rfl)) rfl (by
          rw [E.out]
          exact ⟨_, rfl, CK.out, Below.setCells _ (by omega) _ _ HB.out⟩)
end Go.Proofs.Ytlmabdiodopidaa.G
end
section
set_option linter.unusedVariables false
set_option linter.unusedSimpArgs false
namespace Go.Proofs.Ytlmabdiodopidaa.Q
open Go.Proofs.Ytlmabdiodopidaa.G
attribute [local go_sem high] un_not64 un_noti run_add64
open Go.RowKit Go.Proofs.YtlmabdiodopidaaW.PrintWords Go.Proofs.YtlmabdiodopidaaW.PrintLast Go.Proofs.YtlmabdiodopidaaW.PrintMore
attribute [local go_sem] max2_int min2_int max_two min_two max_three min_three max_four min_four   -- for this text's walks alone
set_option linter.unusedVariables false
set_option linter.unusedSimpArgs false



def errW : Option Int → Value
  | none => .nilIface
  | some c => .iface 0 (.int .i64 c)
theorem errW_none : errW none = .nilIface := rfl
theorem errW_some (c : Int) : errW (some c) = .iface 0 (.int .i64 c) := rfl

-- the values' own types

end Go.Proofs.Ytlmabdiodopidaa.Q
end
section
set_option linter.unusedVariables false
set_option linter.unusedSimpArgs false
namespace Go.Proofs.Ytlmabdiodopidaa.Q
open Go.Proofs.Ytlmabdiodopidaa.G
attribute [local go_sem high] un_not64 un_noti run_add64
open Go.RowKit Go.Proofs.YtlmabdiodopidaaW.PrintWords Go.Proofs.YtlmabdiodopidaaW.PrintLast Go.Proofs.YtlmabdiodopidaaW.PrintMore
attribute [local go_sem] max2_int min2_int max_two min_two max_three min_three max_four min_four   -- for this text's walks alone
set_option linter.unusedVariables false
set_option linter.unusedSimpArgs false

/-! ### corebankref08_Plain: function 94 -/
def corebankref08_Plain.l0 : Nat → ByteArray → Int → Option (Bool)
  | 0, _, _ => none
  | k + 1, x0, x3 => if x3 < (x0.size : Int) then (if 0 ≤ x3 then (if (bt x0 x3) < 48 then (if (bt x0 x3) < 65 then (some false) else (if (bt x0 x3) > 90 then (some false) else (corebankref08_Plain.l0 k x0 (wrap64 (x3 + 1))))) else (if (bt x0 x3) > 57 then (if (bt x0 x3) < 65 then (some false) else (if (bt x0 x3) > 90 then (some false) else (corebankref08_Plain.l0 k x0 (wrap64 (x3 + 1))))) else (corebankref08_Plain.l0 k x0 (wrap64 (x3 + 1))))) else (none)) else (some true)
def corebankref08_Plain.f (k : Nat) (a0 : ByteArray) : Option (Bool) := corebankref08_Plain.l0 k a0 0
theorem corebankref08_Plain.mono_l : ∀ k, (∀ y0 y1, LeO (corebankref08_Plain.l0 k y0 y1) (corebankref08_Plain.l0 (k + 1) y0 y1))
  | 0 => fun _ _ r h => by simp [corebankref08_Plain.l0] at h
  | k + 1 => by
    have ih0 := corebankref08_Plain.mono_l k
    · intro y0 y1
      unfold corebankref08_Plain.l0
      repeat' first
      | (with_reducible exact ih0 _ _)
      | (with_reducible exact LeO.refl _)
      | (with_reducible exact LeO.none _)
      | (with_reducible refine LeO.ite ?_ ?_)
      | (with_reducible refine LeO.bind ?_ (fun _ => ?_))
      | exact ih0 _ _
      | exact LeO.none _
      | refine LeO.ite ?_ ?_
      | refine LeO.bind ?_ (fun _ => ?_)
theorem corebankref08_Plain.mono : ∀ a0 k, LeO (corebankref08_Plain.f k a0) (corebankref08_Plain.f (k + 1) a0) := by
  intro a0 k
  have ih0 := corebankref08_Plain.mono_l k
  unfold corebankref08_Plain.f
  repeat' first
      | (with_reducible exact ih0 _ _)
      | (with_reducible exact LeO.refl _)
      | (with_reducible exact LeO.none _)
      | (with_reducible refine LeO.ite ?_ ?_)
      | (with_reducible refine LeO.bind ?_ (fun _ => ?_))
      | exact ih0 _ _
      | exact LeO.none _
      | refine LeO.ite ?_ ?_
      | refine LeO.bind ?_ (fun _ => ?_)
set_option maxHeartbeats 8000000 in
set_option maxRecDepth 100000 in
theorem corebankref08_Plain.calls (k : Nat) (a0 : ByteArray) (r : Bool) (w : World) (h : corebankref08_Plain.f k a0 = some r) :
    Calls Try.prog 94 #[.string a0] w fun e w' => e = .returned (.bool r) ∧ Drawn0 w w' := by
  have H : (corebankref08_Plain.l0 k a0 0) = some r := h
  clear h
  have H' := Aside0.mk H
  clear H
  go_enter Try.func94, Try.ntmps94
  go_wp2
  go_loopg [3] k (fun kq v3 w' => ∃ (x3_1 : Int), v3 = .int .i64 x3_1 ∧ Aside0 (corebankref08_Plain.l0 kq a0 x3_1 = some r) ∧ Aside0 (kq ≤ k) ∧ Drawn0 w w')
  case atStart => exact ⟨(0), (by first | rfl | (simp; done) | (simp [*]; done)), H', ⟨Nat.le_refl _⟩, by repeat (first | exact Drawn0.refl _ | apply Drawn0.step)⟩
  case round =>
    clear H'
    obtain ⟨x3_1, rfl, HA, HK1, ⟨m1, rfl⟩⟩ := hrel
    cases gk with
    | zero => exact absurd HA.out (by simp [corebankref08_Plain.l0])
    | succ k1 =>
      have H := HA.out
      clear HA
      simp only [corebankref08_Plain.l0] at H
      by_cases c2 : x3_1 < (a0.size : Int)
      · rw [if_pos c2] at H
        have c2b0 : decide (x3_1 < (a0.size : Int)) = true := decide_eq_true c2
        clear c2
        by_cases c3 : 0 ≤ x3_1
        · rw [if_pos c3] at H
          have c3b0 : decide (0 ≤ x3_1) = true := decide_eq_true c3
          clear c3
          by_cases c5 : (bt a0 x3_1) < 48
          · rw [if_pos c5] at H
            have c5b0 : decide ((bt a0 x3_1) < 48) = true := decide_eq_true c5
            clear c5
            by_cases c7 : (bt a0 x3_1) < 65
            · rw [if_pos c7] at H
              have c7b0 : decide ((bt a0 x3_1) < 65) = true := decide_eq_true c7
              clear c7
              obtain rfl := Option.some.inj H
              have p4 : 0 ≤ (x3_1 : Int) := of_decide_eq_true (by first | (with_reducible assumption) | assumption)
              have q4 : x3_1 < (a0.size : Int) := of_decide_eq_true (by first | (with_reducible assumption) | assumption)
              have hx4 := bt_at a0 x3_1
              replace p4 := eq_true p4
              replace q4 := eq_true q4
              have p6 : 0 ≤ (x3_1 : Int) := of_decide_eq_true (by first | (with_reducible assumption) | assumption)
              have q6 : x3_1 < (a0.size : Int) := of_decide_eq_true (by first | (with_reducible assumption) | assumption)
              have hx6 := bt_at a0 x3_1
              replace p6 := eq_true p6
              replace q6 := eq_true q6
              go_wp2
              go_ret
              exact ⟨by first | rfl | (simp; done) | (simp [*]; done), by repeat (first | exact Drawn0.refl _ | apply Drawn0.step)⟩
            · rw [if_neg c7] at H
              have c7b0 : decide ((bt a0 x3_1) < 65) = false := decide_eq_false c7
              clear c7
              by_cases c9 : (bt a0 x3_1) > 90
              · rw [if_pos c9] at H
                have c9b0 : decide (90 < (bt a0 x3_1)) = true := decide_eq_true c9
                clear c9
                obtain rfl := Option.some.inj H
                have p4 : 0 ≤ (x3_1 : Int) := of_decide_eq_true (by first | (with_reducible assumption) | assumption)
                have q4 : x3_1 < (a0.size : Int) := of_decide_eq_true (by first | (with_reducible assumption) | assumption)
                have hx4 := bt_at a0 x3_1
                replace p4 := eq_true p4
                replace q4 := eq_true q4
                have p6 : 0 ≤ (x3_1 : Int) := of_decide_eq_true (by first | (with_reducible assumption) | assumption)
                have q6 : x3_1 < (a0.size : Int) := of_decide_eq_true (by first | (with_reducible assumption) | assumption)
                have hx6 := bt_at a0 x3_1
                replace p6 := eq_true p6
                replace q6 := eq_true q6
                have p8 : 0 ≤ (x3_1 : Int) := of_decide_eq_true (by first | (with_reducible assumption) | assumption)
                have q8 : x3_1 < (a0.size : Int) := of_decide_eq_true (by first | (with_reducible assumption) | assumption)
                have hx8 := bt_at a0 x3_1
                replace p8 := eq_true p8
                replace q8 := eq_true q8
                go_wp2
                go_ret
                exact ⟨by first | rfl | (simp; done) | (simp [*]; done), by repeat (first | exact Drawn0.refl _ | apply Drawn0.step)⟩
              · rw [if_neg c9] at H
                have c9b0 : decide (90 < (bt a0 x3_1)) = false := decide_eq_false c9
                clear c9
                have H' := Aside0.mk H
                clear H
                have p4 : 0 ≤ (x3_1 : Int) := of_decide_eq_true (by first | (with_reducible assumption) | assumption)
                have q4 : x3_1 < (a0.size : Int) := of_decide_eq_true (by first | (with_reducible assumption) | assumption)
                have hx4 := bt_at a0 x3_1
                replace p4 := eq_true p4
                replace q4 := eq_true q4
                have p6 : 0 ≤ (x3_1 : Int) := of_decide_eq_true (by first | (with_reducible assumption) | assumption)
                have q6 : x3_1 < (a0.size : Int) := of_decide_eq_true (by first | (with_reducible assumption) | assumption)
                have hx6 := bt_at a0 x3_1
                replace p6 := eq_true p6
                replace q6 := eq_true q6
                have p8 : 0 ≤ (x3_1 : Int) := of_decide_eq_true (by first | (with_reducible assumption) | assumption)
                have q8 : x3_1 < (a0.size : Int) := of_decide_eq_true (by first | (with_reducible assumption) | assumption)
                have hx8 := bt_at a0 x3_1
                replace p8 := eq_true p8
                replace q8 := eq_true q8
                go_wp2
                go_roundg k1
                case measure => have := HK1.out; omega
                case rel => exact ⟨(wrap64 (x3_1 + 1)), (by first | rfl | (simp; done) | (simp [*]; done)), H', ⟨by have := HK1.out; omega⟩, by repeat (first | exact Drawn0.refl _ | apply Drawn0.step)⟩
          · rw [if_neg c5] at H
            have c5b0 : decide ((bt a0 x3_1) < 48) = false := decide_eq_false c5
            clear c5
            by_cases c11 : (bt a0 x3_1) > 57
            · rw [if_pos c11] at H
              have c11b0 : decide (57 < (bt a0 x3_1)) = true := decide_eq_true c11
              clear c11
              by_cases c13 : (bt a0 x3_1) < 65
              · rw [if_pos c13] at H
                have c13b0 : decide ((bt a0 x3_1) < 65) = true := decide_eq_true c13
                clear c13
                obtain rfl := Option.some.inj H
                have p4 : 0 ≤ (x3_1 : Int) := of_decide_eq_true (by first | (with_reducible assumption) | assumption)
                have q4 : x3_1 < (a0.size : Int) := of_decide_eq_true (by first | (with_reducible assumption) | assumption)
                have hx4 := bt_at a0 x3_1
                replace p4 := eq_true p4
                replace q4 := eq_true q4
                have p10 : 0 ≤ (x3_1 : Int) := of_decide_eq_true (by first | (with_reducible assumption) | assumption)
                have q10 : x3_1 < (a0.size : Int) := of_decide_eq_true (by first | (with_reducible assumption) | assumption)
                have hx10 := bt_at a0 x3_1
                replace p10 := eq_true p10
                replace q10 := eq_true q10
                have p12 : 0 ≤ (x3_1 : Int) := of_decide_eq_true (by first | (with_reducible assumption) | assumption)
                have q12 : x3_1 < (a0.size : Int) := of_decide_eq_true (by first | (with_reducible assumption) | assumption)
                have hx12 := bt_at a0 x3_1
                replace p12 := eq_true p12
                replace q12 := eq_true q12
                go_wp2
                go_ret
                exact ⟨by first | rfl | (simp; done) | (simp [*]; done), by repeat (first | exact Drawn0.refl _ | apply Drawn0.step)⟩
              · rw [if_neg c13] at H
                have c13b0 : decide ((bt a0 x3_1) < 65) = false := decide_eq_false c13
                clear c13
                by_cases c15 : (bt a0 x3_1) > 90
                · rw [if_pos c15] at H
                  have c15b0 : decide (90 < (bt a0 x3_1)) = true := decide_eq_true c15
                  clear c15
                  obtain rfl := Option.some.inj H
                  have p4 : 0 ≤ (x3_1 : Int) := of_decide_eq_true (by first | (with_reducible assumption) | assumption)
                  have q4 : x3_1 < (a0.size : Int) := of_decide_eq_true (by first | (with_reducible assumption) | assumption)
                  have hx4 := bt_at a0 x3_1
                  replace p4 := eq_true p4
                  replace q4 := eq_true q4
                  have p10 : 0 ≤ (x3_1 : Int) := of_decide_eq_true (by first | (with_reducible assumption) | assumption)
                  have q10 : x3_1 < (a0.size : Int) := of_decide_eq_true (by first | (with_reducible assumption) | assumption)
                  have hx10 := bt_at a0 x3_1
                  replace p10 := eq_true p10
                  replace q10 := eq_true q10
                  have p12 : 0 ≤ (x3_1 : Int) := of_decide_eq_true (by first | (with_reducible assumption) | assumption)
                  have q12 : x3_1 < (a0.size : Int) := of_decide_eq_true (by first | (with_reducible assumption) | assumption)
                  have hx12 := bt_at a0 x3_1
                  replace p12 := eq_true p12
                  replace q12 := eq_true q12
                  have p14 : 0 ≤ (x3_1 : Int) := of_decide_eq_true (by first | (with_reducible assumption) | assumption)
                  have q14 : x3_1 < (a0.size : Int) := of_decide_eq_true (by first | (with_reducible assumption) | assumption)
                  have hx14 := bt_at a0 x3_1
                  replace p14 := eq_true p14
                  replace q14 := eq_true q14
                  go_wp2
                  go_ret
                  exact ⟨by first | rfl | (simp; done) | (simp [*]; done), by repeat (first | exact Drawn0.refl _ | apply Drawn0.step)⟩
                · rw [if_neg c15] at H
                  have c15b0 : decide (90 < (bt a0 x3_1)) = false := decide_eq_false c15
                  clear c15
                  have H' := Aside0.mk H
                  clear H
                  have p4 : 0 ≤ (x3_1 : Int) := of_decide_eq_true (by first | (with_reducible assumption) | assumption)
                  have q4 : x3_1 < (a0.size : Int) := of_decide_eq_true (by first | (with_reducible assumption) | assumption)
                  have hx4 := bt_at a0 x3_1
                  replace p4 := eq_true p4
                  replace q4 := eq_true q4
                  have p10 : 0 ≤ (x3_1 : Int) := of_decide_eq_true (by first | (with_reducible assumption) | assumption)
                  have q10 : x3_1 < (a0.size : Int) := of_decide_eq_true (by first | (with_reducible assumption) | assumption)
                  have hx10 := bt_at a0 x3_1
                  replace p10 := eq_true p10
                  replace q10 := eq_true q10
                  have p12 : 0 ≤ (x3_1 : Int) := of_decide_eq_true (by first | (with_reducible assumption) | assumption)
                  have q12 : x3_1 < (a0.size : Int) := of_decide_eq_true (by first | (with_reducible assumption) | assumption)
                  have hx12 := bt_at a0 x3_1
                  replace p12 := eq_true p12
                  replace q12 := eq_true q12
                  have p14 : 0 ≤ (x3_1 : Int) := of_decide_eq_true (by first | (with_reducible assumption) | assumption)
                  have q14 : x3_1 < (a0.size : Int) := of_decide_eq_true (by first | (with_reducible assumption) | assumption)
                  have hx14 := bt_at a0 x3_1
                  replace p14 := eq_true p14
                  replace q14 := eq_true q14
                  go_wp2
                  go_roundg k1
                  case measure => have := HK1.out; omega
                  case rel => exact ⟨(wrap64 (x3_1 + 1)), (by first | rfl | (simp; done) | (simp [*]; done)), H', ⟨by have := HK1.out; omega⟩, by repeat (first | exact Drawn0.refl _ | apply Drawn0.step)⟩
            · rw [if_neg c11] at H
              have c11b0 : decide (57 < (bt a0 x3_1)) = false := decide_eq_false c11
              clear c11
              have H' := Aside0.mk H
              clear H
              have p4 : 0 ≤ (x3_1 : Int) := of_decide_eq_true (by first | (with_reducible assumption) | assumption)
              have q4 : x3_1 < (a0.size : Int) := of_decide_eq_true (by first | (with_reducible assumption) | assumption)
              have hx4 := bt_at a0 x3_1
              replace p4 := eq_true p4
              replace q4 := eq_true q4
              have p10 : 0 ≤ (x3_1 : Int) := of_decide_eq_true (by first | (with_reducible assumption) | assumption)
              have q10 : x3_1 < (a0.size : Int) := of_decide_eq_true (by first | (with_reducible assumption) | assumption)
              have hx10 := bt_at a0 x3_1
              replace p10 := eq_true p10
              replace q10 := eq_true q10
              go_wp2
              go_roundg k1
              case measure => have := HK1.out; omega
              case rel => exact ⟨(wrap64 (x3_1 + 1)), (by first | rfl | (simp; done) | (simp [*]; done)), H', ⟨by have := HK1.out; omega⟩, by repeat (first | exact Drawn0.refl _ | apply Drawn0.step)⟩
        · rw [if_neg c3] at H
          exact absurd H (by simp)
      · rw [if_neg c2] at H
        have c2b0 : decide (x3_1 < (a0.size : Int)) = false := decide_eq_false c2
        clear c2
        obtain rfl := Option.some.inj H
        go_wp2
        go_ret
        exact ⟨by first | rfl | (simp; done) | (simp [*]; done), by repeat (first | exact Drawn0.refl _ | apply Drawn0.step)⟩

/-! ### corebankref08_rest: function 95 -/
def corebankref08_rest.l0 : Nat → ByteArray → Int → Int → Option (Int)
  | 0, _, _, _ => none
  | k + 1, x0, x3, x4 => if x4 < (x0.size : Int) then (if 0 ≤ x4 then (if (bt x0 x4) ≤ 57 then (corebankref08_rest.l0 k x0 (Int.tmod (wrap64 ((wrap64 (10 * x3)) + (((bt x0 x4) - 48) % 256))) 97) (wrap64 (x4 + 1))) else (corebankref08_rest.l0 k x0 (Int.tmod (wrap64 ((wrap64 ((wrap64 (100 * x3)) + (((bt x0 x4) - 65) % 256))) + 10)) 97) (wrap64 (x4 + 1)))) else (none)) else (some x3)
def corebankref08_rest.f (k : Nat) (a0 : ByteArray) : Option (Int) := corebankref08_rest.l0 k a0 0 0
theorem corebankref08_rest.mono_l : ∀ k, (∀ y0 y1 y2, LeO (corebankref08_rest.l0 k y0 y1 y2) (corebankref08_rest.l0 (k + 1) y0 y1 y2))
  | 0 => fun _ _ _ r h => by simp [corebankref08_rest.l0] at h
  | k + 1 => by
    have ih0 := corebankref08_rest.mono_l k
    · intro y0 y1 y2
      unfold corebankref08_rest.l0
      repeat' first
      | (with_reducible exact ih0 _ _ _)
      | (with_reducible exact LeO.refl _)
      | (with_reducible exact LeO.none _)
      | (with_reducible refine LeO.ite ?_ ?_)
      | (with_reducible refine LeO.bind ?_ (fun _ => ?_))
      | exact ih0 _ _ _
      | exact LeO.none _
      | refine LeO.ite ?_ ?_
      | refine LeO.bind ?_ (fun _ => ?_)
theorem corebankref08_rest.mono : ∀ a0 k, LeO (corebankref08_rest.f k a0) (corebankref08_rest.f (k + 1) a0) := by
  intro a0 k
  have ih0 := corebankref08_rest.mono_l k
  unfold corebankref08_rest.f
  repeat' first
      | (with_reducible exact ih0 _ _ _)
      | (with_reducible exact LeO.refl _)
      | (with_reducible exact LeO.none _)
      | (with_reducible refine LeO.ite ?_ ?_)
      | (with_reducible refine LeO.bind ?_ (fun _ => ?_))
      | exact ih0 _ _ _
      | exact LeO.none _
      | refine LeO.ite ?_ ?_
      | refine LeO.bind ?_ (fun _ => ?_)
set_option maxHeartbeats 8000000 in
set_option maxRecDepth 100000 in
theorem corebankref08_rest.calls (k : Nat) (a0 : ByteArray) (r : Int) (w : World) (h : corebankref08_rest.f k a0 = some r) :
    Calls Try.prog 95 #[.string a0] w fun e w' => e = .returned (.int .i64 r) ∧ Drawn0 w w' := by
  have H : (corebankref08_rest.l0 k a0 0 0) = some r := h
  clear h
  have H' := Aside0.mk H
  clear H
  go_enter Try.func95, Try.ntmps95
  go_wp2
  go_loopg [3, 4] k (fun kq v3 v4 w' => ∃ (x3_1 : Int) (x4_1 : Int), v3 = .int .i64 x3_1 ∧ v4 = .int .i64 x4_1 ∧ Aside0 (corebankref08_rest.l0 kq a0 x3_1 x4_1 = some r) ∧ Aside0 (kq ≤ k) ∧ Drawn0 w w')
  case atStart => exact ⟨(0), (0), (by first | rfl | (simp; done) | (simp [*]; done)), (by first | rfl | (simp; done) | (simp [*]; done)), H', ⟨Nat.le_refl _⟩, by repeat (first | exact Drawn0.refl _ | apply Drawn0.step)⟩
  case round =>
    clear H'
    obtain ⟨x3_1, x4_1, rfl, rfl, HA, HK1, ⟨m1, rfl⟩⟩ := hrel
    cases gk with
    | zero => exact absurd HA.out (by simp [corebankref08_rest.l0])
    | succ k1 =>
      have H := HA.out
      clear HA
      simp only [corebankref08_rest.l0] at H
      by_cases c2 : x4_1 < (a0.size : Int)
      · rw [if_pos c2] at H
        have c2b0 : decide (x4_1 < (a0.size : Int)) = true := decide_eq_true c2
        clear c2
        by_cases c3 : 0 ≤ x4_1
        · rw [if_pos c3] at H
          have c3b0 : decide (0 ≤ x4_1) = true := decide_eq_true c3
          clear c3
          by_cases c5 : (bt a0 x4_1) ≤ 57
          · rw [if_pos c5] at H
            have c5b0 : decide ((bt a0 x4_1) ≤ 57) = true := decide_eq_true c5
            clear c5
            have H' := Aside0.mk H
            clear H
            have p4 : 0 ≤ (x4_1 : Int) := of_decide_eq_true (by first | (with_reducible assumption) | assumption)
            have q4 : x4_1 < (a0.size : Int) := of_decide_eq_true (by first | (with_reducible assumption) | assumption)
            have hx4 := bt_at a0 x4_1
            replace p4 := eq_true p4
            replace q4 := eq_true q4
            have p6 : 0 ≤ (x4_1 : Int) := of_decide_eq_true (by first | (with_reducible assumption) | assumption)
            have q6 : x4_1 < (a0.size : Int) := of_decide_eq_true (by first | (with_reducible assumption) | assumption)
            have hx6 := bt_at a0 x4_1
            replace p6 := eq_true p6
            replace q6 := eq_true q6
            go_wp2
            go_roundg k1
            case measure => have := HK1.out; omega
            case rel => exact ⟨(Int.tmod (wrap64 ((wrap64 (10 * x3_1)) + (((bt a0 x4_1) - 48) % 256))) 97), (wrap64 (x4_1 + 1)), (by first | rfl | (simp; done) | (simp [*]; done)), (by first | rfl | (simp; done) | (simp [*]; done)), H', ⟨by have := HK1.out; omega⟩, by repeat (first | exact Drawn0.refl _ | apply Drawn0.step)⟩
          · rw [if_neg c5] at H
            have c5b0 : decide ((bt a0 x4_1) ≤ 57) = false := decide_eq_false c5
            clear c5
            have H' := Aside0.mk H
            clear H
            have p4 : 0 ≤ (x4_1 : Int) := of_decide_eq_true (by first | (with_reducible assumption) | assumption)
            have q4 : x4_1 < (a0.size : Int) := of_decide_eq_true (by first | (with_reducible assumption) | assumption)
            have hx4 := bt_at a0 x4_1
            replace p4 := eq_true p4
            replace q4 := eq_true q4
            have p7 : 0 ≤ (x4_1 : Int) := of_decide_eq_true (by first | (with_reducible assumption) | assumption)
            have q7 : x4_1 < (a0.size : Int) := of_decide_eq_true (by first | (with_reducible assumption) | assumption)
            have hx7 := bt_at a0 x4_1
            replace p7 := eq_true p7
            replace q7 := eq_true q7
            go_wp2
            go_roundg k1
            case measure => have := HK1.out; omega
            case rel => exact ⟨(Int.tmod (wrap64 ((wrap64 ((wrap64 (100 * x3_1)) + (((bt a0 x4_1) - 65) % 256))) + 10)) 97), (wrap64 (x4_1 + 1)), (by first | rfl | (simp; done) | (simp [*]; done)), (by first | rfl | (simp; done) | (simp [*]; done)), H', ⟨by have := HK1.out; omega⟩, by repeat (first | exact Drawn0.refl _ | apply Drawn0.step)⟩
        · rw [if_neg c3] at H
          exact absurd H (by simp)
      · rw [if_neg c2] at H
        have c2b0 : decide (x4_1 < (a0.size : Int)) = false := decide_eq_false c2
        clear c2
        obtain rfl := Option.some.inj H
        go_wp2
        go_ret
        exact ⟨by first | rfl | (simp; done) | (simp [*]; done), by repeat (first | exact Drawn0.refl _ | apply Drawn0.step)⟩

end Go.Proofs.Ytlmabdiodopidaa.Q
end
section
set_option linter.unusedVariables false
set_option linter.unusedSimpArgs false
namespace Go.Proofs.Ytlmabdiodopidaa.Q
open Go.Proofs.Ytlmabdiodopidaa.G
attribute [local go_sem high] un_not64 un_noti run_add64
open Go.RowKit Go.Proofs.YtlmabdiodopidaaW.PrintWords Go.Proofs.YtlmabdiodopidaaW.PrintLast Go.Proofs.YtlmabdiodopidaaW.PrintMore
attribute [local go_sem] max2_int min2_int max_two min_two max_three min_three max_four min_four   -- for this text's walks alone
set_option linter.unusedVariables false
set_option linter.unusedSimpArgs false

/-! ### corebankref08_Seal: function 85 -/
def corebankref08_Seal.j0 : Nat → ByteArray → Bool → Option (ByteArray × Int)
  | 0, _, _ => none
  | k + 1, x0, x12 => if x12 = true then (some ((⟨#[]⟩ : ByteArray), 5)) else ((corebankref08_Plain.f k x0).bind fun t101 => (if t101 = true then (if x0.size + 2 ≤ 9223372036854775807 then ((corebankref08_rest.f k (x0 ++ (⟨#[48, 48]⟩ : ByteArray))).bind fun t102 => (if 0 ≤ (wrap64 (Int.tdiv (wrap64 (98 - t102)) 10)) then (if (wrap64 (Int.tdiv (wrap64 (98 - t102)) 10)) ≤ (wrap64 ((wrap64 (Int.tdiv (wrap64 (98 - t102)) 10)) + 1)) then (if (wrap64 ((wrap64 (Int.tdiv (wrap64 (98 - t102)) 10)) + 1)) ≤ 10 then (if x0.size + ((⟨#[48, 49, 50, 51, 52, 53, 54, 55, 56, 57]⟩ : ByteArray).extract ((wrap64 (Int.tdiv (wrap64 (98 - t102)) 10)) : Int).toNat ((wrap64 ((wrap64 (Int.tdiv (wrap64 (98 - t102)) 10)) + 1)) : Int).toNat).size ≤ 9223372036854775807 then (if 0 ≤ (Int.tmod (wrap64 (98 - t102)) 10) then (if (Int.tmod (wrap64 (98 - t102)) 10) ≤ (wrap64 ((Int.tmod (wrap64 (98 - t102)) 10) + 1)) then (if (wrap64 ((Int.tmod (wrap64 (98 - t102)) 10) + 1)) ≤ 10 then (if (x0 ++ ((⟨#[48, 49, 50, 51, 52, 53, 54, 55, 56, 57]⟩ : ByteArray).extract ((wrap64 (Int.tdiv (wrap64 (98 - t102)) 10)) : Int).toNat ((wrap64 ((wrap64 (Int.tdiv (wrap64 (98 - t102)) 10)) + 1)) : Int).toNat)).size + ((⟨#[48, 49, 50, 51, 52, 53, 54, 55, 56, 57]⟩ : ByteArray).extract ((Int.tmod (wrap64 (98 - t102)) 10) : Int).toNat ((wrap64 ((Int.tmod (wrap64 (98 - t102)) 10) + 1)) : Int).toNat).size ≤ 9223372036854775807 then (some ((x0 ++ ((⟨#[48, 49, 50, 51, 52, 53, 54, 55, 56, 57]⟩ : ByteArray).extract ((wrap64 (Int.tdiv (wrap64 (98 - t102)) 10)) : Int).toNat ((wrap64 ((wrap64 (Int.tdiv (wrap64 (98 - t102)) 10)) + 1)) : Int).toNat)) ++ ((⟨#[48, 49, 50, 51, 52, 53, 54, 55, 56, 57]⟩ : ByteArray).extract ((Int.tmod (wrap64 (98 - t102)) 10) : Int).toNat ((wrap64 ((Int.tmod (wrap64 (98 - t102)) 10) + 1)) : Int).toNat), 0)) else (none)) else (none)) else (none)) else (none)) else (none)) else (none)) else (none)) else (none))) else (none)) else (some ((⟨#[]⟩ : ByteArray), 2))))
def corebankref08_Seal.f (k : Nat) (a0 : ByteArray) : Option (ByteArray × Int) := if (a0.size : Int) < 1 then (corebankref08_Seal.j0 k a0 true) else (corebankref08_Seal.j0 k a0 (decide ((a0.size : Int) > 46)))
theorem corebankref08_Seal.mono_l : ∀ k, (∀ y0 y1, LeO (corebankref08_Seal.j0 k y0 y1) (corebankref08_Seal.j0 (k + 1) y0 y1))
  | 0 => fun _ _ r h => by simp [corebankref08_Seal.j0] at h
  | k + 1 => by
    have ih0 := corebankref08_Seal.mono_l k
    · intro y0 y1
      unfold corebankref08_Seal.j0
      repeat' first
      | (with_reducible exact ih0 _ _)
      | (with_reducible exact corebankref08_Plain.mono _ _)
      | (with_reducible exact corebankref08_rest.mono _ _)
      | (with_reducible exact LeO.refl _)
      | (with_reducible exact LeO.none _)
      | (with_reducible refine LeO.ite ?_ ?_)
      | (with_reducible refine LeO.bind ?_ (fun _ => ?_))
      | exact ih0 _ _
      | exact corebankref08_Plain.mono _ _
      | exact corebankref08_rest.mono _ _
      | exact LeO.none _
      | refine LeO.ite ?_ ?_
      | refine LeO.bind ?_ (fun _ => ?_)
theorem corebankref08_Seal.mono : ∀ a0 k, LeO (corebankref08_Seal.f k a0) (corebankref08_Seal.f (k + 1) a0) := by
  intro a0 k
  have ih0 := corebankref08_Seal.mono_l k
  unfold corebankref08_Seal.f
  repeat' first
      | (with_reducible exact ih0 _ _)
      | (with_reducible exact corebankref08_Plain.mono _ _)
      | (with_reducible exact corebankref08_rest.mono _ _)
      | (with_reducible exact LeO.refl _)
      | (with_reducible exact LeO.none _)
      | (with_reducible refine LeO.ite ?_ ?_)
      | (with_reducible refine LeO.bind ?_ (fun _ => ?_))
      | exact ih0 _ _
      | exact corebankref08_Plain.mono _ _
      | exact corebankref08_rest.mono _ _
      | exact LeO.none _
      | refine LeO.ite ?_ ?_
      | refine LeO.bind ?_ (fun _ => ?_)
set_option maxHeartbeats 8000000 in
set_option maxRecDepth 100000 in
theorem corebankref08_Seal.calls (k : Nat) (a0 : ByteArray) (r1 : ByteArray) (r2 : Int) (w : World) (h : corebankref08_Seal.f k a0 = some (r1, r2)) :
    Calls Try.prog 85 #[.string a0] w fun e w' => e = .returned (.tuple #[.string r1, .int .i64 r2]) ∧ Drawn0 w w' := by
  have H : (if (a0.size : Int) < 1 then (corebankref08_Seal.j0 k a0 true) else (corebankref08_Seal.j0 k a0 (decide ((a0.size : Int) > 46)))) = some (r1, r2) := h
  clear h
  have HC2 := Aside0.mk H
  clear H
  go_enter Try.func85, Try.ntmps85
  go_upto_region 1 with (fail)
  repeat (go_quiet (fail); go_upto_region 1 with (fail))
  go_cut [12] (fun v12 wc => ∃ (kq : Nat) (x12_1 : Bool), v12 = .bool x12_1 ∧ Aside0 (corebankref08_Seal.j0 kq a0 x12_1 = some (r1, r2)) ∧ Aside0 (kq ≤ k) ∧ Drawn0 w wc)
  case first =>
    have H := HC2.out
    clear HC2
    by_cases c3 : (a0.size : Int) < 1
    · rw [if_pos c3] at H
      have c3b0 : decide ((a0.size : Int) < 1) = true := decide_eq_true c3
      have c3b1 : decide (a0.size < 1) = true := decide_eq_true (by omega)
      clear c3
      (first | rw [c3b0] | (simp only [i64_w, i32_w]; rw [c3b0]) | skip)
      have H' := Aside0.mk H
      clear H
      go_wp2
      repeat (go_quiet (fail); try go_wp2)
      go_meet
      case rel => exact ⟨_, (true), (by first | rfl | (simp; done) | (simp [*]; done)), H', ⟨by first | omega | exact Nat.le_refl _⟩, by repeat (first | exact Drawn0.refl _ | apply Drawn0.step)⟩
    · rw [if_neg c3] at H
      have c3b0 : decide ((a0.size : Int) < 1) = false := decide_eq_false c3
      have c3b1 : decide (a0.size < 1) = false := decide_eq_false (by omega)
      clear c3
      (first | rw [c3b0] | (simp only [i64_w, i32_w]; rw [c3b0]) | skip)
      have H' := Aside0.mk H
      clear H
      go_wp2
      repeat (go_quiet (fail); try go_wp2)
      go_meet
      case rel => exact ⟨_, (decide ((a0.size : Int) > 46)), (by first | rfl | (simp; done) | (simp [*]; done)), H', ⟨by first | omega | exact Nat.le_refl _⟩, by repeat (first | exact Drawn0.refl _ | apply Drawn0.step)⟩
  case rest =>
    clear HC2
    try clear p2
    try clear c3
    try clear c3b0
    try clear c3b1
    obtain ⟨kq, x12_1, rfl, HA, HJ1, ⟨mc1, rfl⟩⟩ := hcut
    cases kq with
    | zero => exact absurd HA.out (by simp [corebankref08_Seal.j0])
    | succ kj1 =>
      have H := HA.out
      clear HA
      simp only [corebankref08_Seal.j0] at H
      by_cases c4 : x12_1 = true
      · subst c4
        have H1 : (some ((⟨#[]⟩ : ByteArray), 5)) = some (r1, r2) := by rw [if_pos rfl] at H; exact H
        clear H
        have H := H1
        clear H1
        simp only [Option.some.injEq, Prod.mk.injEq] at H
        obtain ⟨rfl, rfl⟩ := H
        go_wp2
        repeat (go_quiet (fail); try go_wp2)
        go_ret2
        exact ⟨by first | rfl | (simp; done) | (simp [*]; done), by repeat (first | exact Drawn0.refl _ | apply Drawn0.step)⟩
      · replace c4 := Bool.eq_false_iff.mpr c4
        subst c4
        have H1 : ((corebankref08_Plain.f kj1 a0).bind fun t101 => (if t101 = true then (if a0.size + 2 ≤ 9223372036854775807 then ((corebankref08_rest.f kj1 (a0 ++ (⟨#[48, 48]⟩ : ByteArray))).bind fun t102 => (if 0 ≤ (wrap64 (Int.tdiv (wrap64 (98 - t102)) 10)) then (if (wrap64 (Int.tdiv (wrap64 (98 - t102)) 10)) ≤ (wrap64 ((wrap64 (Int.tdiv (wrap64 (98 - t102)) 10)) + 1)) then (if (wrap64 ((wrap64 (Int.tdiv (wrap64 (98 - t102)) 10)) + 1)) ≤ 10 then (if a0.size + ((⟨#[48, 49, 50, 51, 52, 53, 54, 55, 56, 57]⟩ : ByteArray).extract ((wrap64 (Int.tdiv (wrap64 (98 - t102)) 10)) : Int).toNat ((wrap64 ((wrap64 (Int.tdiv (wrap64 (98 - t102)) 10)) + 1)) : Int).toNat).size ≤ 9223372036854775807 then (if 0 ≤ (Int.tmod (wrap64 (98 - t102)) 10) then (if (Int.tmod (wrap64 (98 - t102)) 10) ≤ (wrap64 ((Int.tmod (wrap64 (98 - t102)) 10) + 1)) then (if (wrap64 ((Int.tmod (wrap64 (98 - t102)) 10) + 1)) ≤ 10 then (if (a0 ++ ((⟨#[48, 49, 50, 51, 52, 53, 54, 55, 56, 57]⟩ : ByteArray).extract ((wrap64 (Int.tdiv (wrap64 (98 - t102)) 10)) : Int).toNat ((wrap64 ((wrap64 (Int.tdiv (wrap64 (98 - t102)) 10)) + 1)) : Int).toNat)).size + ((⟨#[48, 49, 50, 51, 52, 53, 54, 55, 56, 57]⟩ : ByteArray).extract ((Int.tmod (wrap64 (98 - t102)) 10) : Int).toNat ((wrap64 ((Int.tmod (wrap64 (98 - t102)) 10) + 1)) : Int).toNat).size ≤ 9223372036854775807 then (some ((a0 ++ ((⟨#[48, 49, 50, 51, 52, 53, 54, 55, 56, 57]⟩ : ByteArray).extract ((wrap64 (Int.tdiv (wrap64 (98 - t102)) 10)) : Int).toNat ((wrap64 ((wrap64 (Int.tdiv (wrap64 (98 - t102)) 10)) + 1)) : Int).toNat)) ++ ((⟨#[48, 49, 50, 51, 52, 53, 54, 55, 56, 57]⟩ : ByteArray).extract ((Int.tmod (wrap64 (98 - t102)) 10) : Int).toNat ((wrap64 ((Int.tmod (wrap64 (98 - t102)) 10) + 1)) : Int).toNat), 0)) else (none)) else (none)) else (none)) else (none)) else (none)) else (none)) else (none)) else (none))) else (none)) else (some ((⟨#[]⟩ : ByteArray), 2)))) = some (r1, r2) := by rw [if_neg (show ¬ (false = true) by decide)] at H; exact H
        clear H
        have H := H1
        clear H1
        replace H := Option.bind_eq_some_iff.mp H
        obtain ⟨t101, A50, H⟩ := H
        replace H : (if t101 = true then (if a0.size + 2 ≤ 9223372036854775807 then ((corebankref08_rest.f kj1 (a0 ++ (⟨#[48, 48]⟩ : ByteArray))).bind fun t102 => (if 0 ≤ (wrap64 (Int.tdiv (wrap64 (98 - t102)) 10)) then (if (wrap64 (Int.tdiv (wrap64 (98 - t102)) 10)) ≤ (wrap64 ((wrap64 (Int.tdiv (wrap64 (98 - t102)) 10)) + 1)) then (if (wrap64 ((wrap64 (Int.tdiv (wrap64 (98 - t102)) 10)) + 1)) ≤ 10 then (if a0.size + ((⟨#[48, 49, 50, 51, 52, 53, 54, 55, 56, 57]⟩ : ByteArray).extract ((wrap64 (Int.tdiv (wrap64 (98 - t102)) 10)) : Int).toNat ((wrap64 ((wrap64 (Int.tdiv (wrap64 (98 - t102)) 10)) + 1)) : Int).toNat).size ≤ 9223372036854775807 then (if 0 ≤ (Int.tmod (wrap64 (98 - t102)) 10) then (if (Int.tmod (wrap64 (98 - t102)) 10) ≤ (wrap64 ((Int.tmod (wrap64 (98 - t102)) 10) + 1)) then (if (wrap64 ((Int.tmod (wrap64 (98 - t102)) 10) + 1)) ≤ 10 then (if (a0 ++ ((⟨#[48, 49, 50, 51, 52, 53, 54, 55, 56, 57]⟩ : ByteArray).extract ((wrap64 (Int.tdiv (wrap64 (98 - t102)) 10)) : Int).toNat ((wrap64 ((wrap64 (Int.tdiv (wrap64 (98 - t102)) 10)) + 1)) : Int).toNat)).size + ((⟨#[48, 49, 50, 51, 52, 53, 54, 55, 56, 57]⟩ : ByteArray).extract ((Int.tmod (wrap64 (98 - t102)) 10) : Int).toNat ((wrap64 ((Int.tmod (wrap64 (98 - t102)) 10) + 1)) : Int).toNat).size ≤ 9223372036854775807 then (some ((a0 ++ ((⟨#[48, 49, 50, 51, 52, 53, 54, 55, 56, 57]⟩ : ByteArray).extract ((wrap64 (Int.tdiv (wrap64 (98 - t102)) 10)) : Int).toNat ((wrap64 ((wrap64 (Int.tdiv (wrap64 (98 - t102)) 10)) + 1)) : Int).toNat)) ++ ((⟨#[48, 49, 50, 51, 52, 53, 54, 55, 56, 57]⟩ : ByteArray).extract ((Int.tmod (wrap64 (98 - t102)) 10) : Int).toNat ((wrap64 ((Int.tmod (wrap64 (98 - t102)) 10) + 1)) : Int).toNat), 0)) else (none)) else (none)) else (none)) else (none)) else (none)) else (none)) else (none)) else (none))) else (none)) else (some ((⟨#[]⟩ : ByteArray), 2))) = some (r1, r2) := H
        have A5 := Aside0.mk A50
        clear A50
        by_cases c6 : t101 = true
        · subst c6
          have H1 : (if a0.size + 2 ≤ 9223372036854775807 then ((corebankref08_rest.f kj1 (a0 ++ (⟨#[48, 48]⟩ : ByteArray))).bind fun t102 => (if 0 ≤ (wrap64 (Int.tdiv (wrap64 (98 - t102)) 10)) then (if (wrap64 (Int.tdiv (wrap64 (98 - t102)) 10)) ≤ (wrap64 ((wrap64 (Int.tdiv (wrap64 (98 - t102)) 10)) + 1)) then (if (wrap64 ((wrap64 (Int.tdiv (wrap64 (98 - t102)) 10)) + 1)) ≤ 10 then (if a0.size + ((⟨#[48, 49, 50, 51, 52, 53, 54, 55, 56, 57]⟩ : ByteArray).extract ((wrap64 (Int.tdiv (wrap64 (98 - t102)) 10)) : Int).toNat ((wrap64 ((wrap64 (Int.tdiv (wrap64 (98 - t102)) 10)) + 1)) : Int).toNat).size ≤ 9223372036854775807 then (if 0 ≤ (Int.tmod (wrap64 (98 - t102)) 10) then (if (Int.tmod (wrap64 (98 - t102)) 10) ≤ (wrap64 ((Int.tmod (wrap64 (98 - t102)) 10) + 1)) then (if (wrap64 ((Int.tmod (wrap64 (98 - t102)) 10) + 1)) ≤ 10 then (if (a0 ++ ((⟨#[48, 49, 50, 51, 52, 53, 54, 55, 56, 57]⟩ : ByteArray).extract ((wrap64 (Int.tdiv (wrap64 (98 - t102)) 10)) : Int).toNat ((wrap64 ((wrap64 (Int.tdiv (wrap64 (98 - t102)) 10)) + 1)) : Int).toNat)).size + ((⟨#[48, 49, 50, 51, 52, 53, 54, 55, 56, 57]⟩ : ByteArray).extract ((Int.tmod (wrap64 (98 - t102)) 10) : Int).toNat ((wrap64 ((Int.tmod (wrap64 (98 - t102)) 10) + 1)) : Int).toNat).size ≤ 9223372036854775807 then (some ((a0 ++ ((⟨#[48, 49, 50, 51, 52, 53, 54, 55, 56, 57]⟩ : ByteArray).extract ((wrap64 (Int.tdiv (wrap64 (98 - t102)) 10)) : Int).toNat ((wrap64 ((wrap64 (Int.tdiv (wrap64 (98 - t102)) 10)) + 1)) : Int).toNat)) ++ ((⟨#[48, 49, 50, 51, 52, 53, 54, 55, 56, 57]⟩ : ByteArray).extract ((Int.tmod (wrap64 (98 - t102)) 10) : Int).toNat ((wrap64 ((Int.tmod (wrap64 (98 - t102)) 10) + 1)) : Int).toNat), 0)) else (none)) else (none)) else (none)) else (none)) else (none)) else (none)) else (none)) else (none))) else (none)) = some (r1, r2) := by rw [if_pos rfl] at H; exact H
          clear H
          have H := H1
          clear H1
          by_cases c7 : a0.size + 2 ≤ 9223372036854775807
          · rw [if_pos c7] at H
            have c7b0 := eq_true c7
            have c7b1 : decide (a0.size + 2 ≤ 9223372036854775807) = true := decide_eq_true c7
            try have c7b2 : (9223372036854775807 < a0.size + 2) = False := eq_false (Nat.not_lt.2 c7)
            replace H := Option.bind_eq_some_iff.mp H
            obtain ⟨t102, A80, H⟩ := H
            replace H : (if 0 ≤ (wrap64 (Int.tdiv (wrap64 (98 - t102)) 10)) then (if (wrap64 (Int.tdiv (wrap64 (98 - t102)) 10)) ≤ (wrap64 ((wrap64 (Int.tdiv (wrap64 (98 - t102)) 10)) + 1)) then (if (wrap64 ((wrap64 (Int.tdiv (wrap64 (98 - t102)) 10)) + 1)) ≤ 10 then (if a0.size + ((⟨#[48, 49, 50, 51, 52, 53, 54, 55, 56, 57]⟩ : ByteArray).extract ((wrap64 (Int.tdiv (wrap64 (98 - t102)) 10)) : Int).toNat ((wrap64 ((wrap64 (Int.tdiv (wrap64 (98 - t102)) 10)) + 1)) : Int).toNat).size ≤ 9223372036854775807 then (if 0 ≤ (Int.tmod (wrap64 (98 - t102)) 10) then (if (Int.tmod (wrap64 (98 - t102)) 10) ≤ (wrap64 ((Int.tmod (wrap64 (98 - t102)) 10) + 1)) then (if (wrap64 ((Int.tmod (wrap64 (98 - t102)) 10) + 1)) ≤ 10 then (if (a0 ++ ((⟨#[48, 49, 50, 51, 52, 53, 54, 55, 56, 57]⟩ : ByteArray).extract ((wrap64 (Int.tdiv (wrap64 (98 - t102)) 10)) : Int).toNat ((wrap64 ((wrap64 (Int.tdiv (wrap64 (98 - t102)) 10)) + 1)) : Int).toNat)).size + ((⟨#[48, 49, 50, 51, 52, 53, 54, 55, 56, 57]⟩ : ByteArray).extract ((Int.tmod (wrap64 (98 - t102)) 10) : Int).toNat ((wrap64 ((Int.tmod (wrap64 (98 - t102)) 10) + 1)) : Int).toNat).size ≤ 9223372036854775807 then (some ((a0 ++ ((⟨#[48, 49, 50, 51, 52, 53, 54, 55, 56, 57]⟩ : ByteArray).extract ((wrap64 (Int.tdiv (wrap64 (98 - t102)) 10)) : Int).toNat ((wrap64 ((wrap64 (Int.tdiv (wrap64 (98 - t102)) 10)) + 1)) : Int).toNat)) ++ ((⟨#[48, 49, 50, 51, 52, 53, 54, 55, 56, 57]⟩ : ByteArray).extract ((Int.tmod (wrap64 (98 - t102)) 10) : Int).toNat ((wrap64 ((Int.tmod (wrap64 (98 - t102)) 10) + 1)) : Int).toNat), 0)) else (none)) else (none)) else (none)) else (none)) else (none)) else (none)) else (none)) else (none)) = some (r1, r2) := H
            have A8 := Aside0.mk A80
            clear A80
            obtain ⟨ji9, hji9⟩ : ∃ j_ : Int, (wrap64 (Int.tdiv (wrap64 (98 - t102)) 10)) = j_ := ⟨_, rfl⟩
            replace H : (if 0 ≤ (ji9) then (if (ji9) ≤ (wrap64 ((ji9) + 1)) then (if (wrap64 ((ji9) + 1)) ≤ 10 then (if a0.size + ((⟨#[48, 49, 50, 51, 52, 53, 54, 55, 56, 57]⟩ : ByteArray).extract ((ji9) : Int).toNat ((wrap64 ((ji9) + 1)) : Int).toNat).size ≤ 9223372036854775807 then (if 0 ≤ (Int.tmod (wrap64 (98 - t102)) 10) then (if (Int.tmod (wrap64 (98 - t102)) 10) ≤ (wrap64 ((Int.tmod (wrap64 (98 - t102)) 10) + 1)) then (if (wrap64 ((Int.tmod (wrap64 (98 - t102)) 10) + 1)) ≤ 10 then (if (a0 ++ ((⟨#[48, 49, 50, 51, 52, 53, 54, 55, 56, 57]⟩ : ByteArray).extract ((ji9) : Int).toNat ((wrap64 ((ji9) + 1)) : Int).toNat)).size + ((⟨#[48, 49, 50, 51, 52, 53, 54, 55, 56, 57]⟩ : ByteArray).extract ((Int.tmod (wrap64 (98 - t102)) 10) : Int).toNat ((wrap64 ((Int.tmod (wrap64 (98 - t102)) 10) + 1)) : Int).toNat).size ≤ 9223372036854775807 then (some ((a0 ++ ((⟨#[48, 49, 50, 51, 52, 53, 54, 55, 56, 57]⟩ : ByteArray).extract ((ji9) : Int).toNat ((wrap64 ((ji9) + 1)) : Int).toNat)) ++ ((⟨#[48, 49, 50, 51, 52, 53, 54, 55, 56, 57]⟩ : ByteArray).extract ((Int.tmod (wrap64 (98 - t102)) 10) : Int).toNat ((wrap64 ((Int.tmod (wrap64 (98 - t102)) 10) + 1)) : Int).toNat), 0)) else (none)) else (none)) else (none)) else (none)) else (none)) else (none)) else (none)) else (none)) = some (r1, r2) := by first | (rw [hji9] at H; exact H) | (simp only [hji9] at H ⊢; exact H)
            (try rw [hji9] at A5)
            (try rw [hji9] at A8)
            have hji9w : (IntKind.i64.wrap (Int.tdiv (wrap64 (98 - t102)) 10)) = ji9 := (i64_w _).trans hji9
            by_cases c10 : 0 ≤ (ji9)
            · rw [if_pos c10] at H
              have c10b0 := eq_true c10
              have c10b1 : decide (0 ≤ (ji9)) = true := decide_eq_true c10
              clear c10
              by_cases c11 : (ji9) ≤ (wrap64 ((ji9) + 1))
              · rw [if_pos c11] at H
                have c11b0 := eq_true c11
                have c11b1 : decide ((ji9) ≤ (wrap64 ((ji9) + 1))) = true := decide_eq_true c11
                by_cases c12 : (wrap64 ((ji9) + 1)) ≤ 10
                · rw [if_pos c12] at H
                  have c12b0 := eq_true c12
                  have c12b1 : decide ((wrap64 ((ji9) + 1)) ≤ 10) = true := decide_eq_true c12
                  by_cases c13 : a0.size + ((⟨#[48, 49, 50, 51, 52, 53, 54, 55, 56, 57]⟩ : ByteArray).extract ((ji9) : Int).toNat ((wrap64 ((ji9) + 1)) : Int).toNat).size ≤ 9223372036854775807
                  · rw [if_pos c13] at H
                    have c13b0 := eq_true c13
                    have c13b1 : decide (a0.size + ((⟨#[48, 49, 50, 51, 52, 53, 54, 55, 56, 57]⟩ : ByteArray).extract ((ji9) : Int).toNat ((wrap64 ((ji9) + 1)) : Int).toNat).size ≤ 9223372036854775807) = true := decide_eq_true c13
                    try have c13b2 : (9223372036854775807 < a0.size + ((⟨#[48, 49, 50, 51, 52, 53, 54, 55, 56, 57]⟩ : ByteArray).extract ((ji9) : Int).toNat ((wrap64 ((ji9) + 1)) : Int).toNat).size) = False := eq_false (Nat.not_lt.2 c13)
                    obtain ⟨ji14, hji14⟩ : ∃ j_ : Int, (Int.tmod (wrap64 (98 - t102)) 10) = j_ := ⟨_, rfl⟩
                    replace H : (if 0 ≤ (ji14) then (if (ji14) ≤ (wrap64 ((ji14) + 1)) then (if (wrap64 ((ji14) + 1)) ≤ 10 then (if (a0 ++ ((⟨#[48, 49, 50, 51, 52, 53, 54, 55, 56, 57]⟩ : ByteArray).extract ((ji9) : Int).toNat ((wrap64 ((ji9) + 1)) : Int).toNat)).size + ((⟨#[48, 49, 50, 51, 52, 53, 54, 55, 56, 57]⟩ : ByteArray).extract ((ji14) : Int).toNat ((wrap64 ((ji14) + 1)) : Int).toNat).size ≤ 9223372036854775807 then (some ((a0 ++ ((⟨#[48, 49, 50, 51, 52, 53, 54, 55, 56, 57]⟩ : ByteArray).extract ((ji9) : Int).toNat ((wrap64 ((ji9) + 1)) : Int).toNat)) ++ ((⟨#[48, 49, 50, 51, 52, 53, 54, 55, 56, 57]⟩ : ByteArray).extract ((ji14) : Int).toNat ((wrap64 ((ji14) + 1)) : Int).toNat), 0)) else (none)) else (none)) else (none)) else (none)) = some (r1, r2) := by first | (rw [hji14] at H; exact H) | (simp only [hji14] at H ⊢; exact H)
                    (try rw [hji14] at A5)
                    (try rw [hji14] at A8)
                    by_cases c15 : 0 ≤ (ji14)
                    · rw [if_pos c15] at H
                      have c15b0 := eq_true c15
                      have c15b1 : decide (0 ≤ (ji14)) = true := decide_eq_true c15
                      clear c15
                      by_cases c16 : (ji14) ≤ (wrap64 ((ji14) + 1))
                      · rw [if_pos c16] at H
                        have c16b0 := eq_true c16
                        have c16b1 : decide ((ji14) ≤ (wrap64 ((ji14) + 1))) = true := decide_eq_true c16
                        by_cases c17 : (wrap64 ((ji14) + 1)) ≤ 10
                        · rw [if_pos c17] at H
                          have c17b0 := eq_true c17
                          have c17b1 : decide ((wrap64 ((ji14) + 1)) ≤ 10) = true := decide_eq_true c17
                          by_cases c18 : (a0 ++ ((⟨#[48, 49, 50, 51, 52, 53, 54, 55, 56, 57]⟩ : ByteArray).extract ((ji9) : Int).toNat ((wrap64 ((ji9) + 1)) : Int).toNat)).size + ((⟨#[48, 49, 50, 51, 52, 53, 54, 55, 56, 57]⟩ : ByteArray).extract ((ji14) : Int).toNat ((wrap64 ((ji14) + 1)) : Int).toNat).size ≤ 9223372036854775807
                          · rw [if_pos c18] at H
                            have c18b0 := eq_true c18
                            have c18b1 : decide ((a0 ++ ((⟨#[48, 49, 50, 51, 52, 53, 54, 55, 56, 57]⟩ : ByteArray).extract ((ji9) : Int).toNat ((wrap64 ((ji9) + 1)) : Int).toNat)).size + ((⟨#[48, 49, 50, 51, 52, 53, 54, 55, 56, 57]⟩ : ByteArray).extract ((ji14) : Int).toNat ((wrap64 ((ji14) + 1)) : Int).toNat).size ≤ 9223372036854775807) = true := decide_eq_true c18
                            try have c18b2 : (9223372036854775807 < (a0 ++ ((⟨#[48, 49, 50, 51, 52, 53, 54, 55, 56, 57]⟩ : ByteArray).extract ((ji9) : Int).toNat ((wrap64 ((ji9) + 1)) : Int).toNat)).size + ((⟨#[48, 49, 50, 51, 52, 53, 54, 55, 56, 57]⟩ : ByteArray).extract ((ji14) : Int).toNat ((wrap64 ((ji14) + 1)) : Int).toNat).size) = False := eq_false (Nat.not_lt.2 c18)
                            simp only [Option.some.injEq, Prod.mk.injEq] at H
                            obtain ⟨rfl, rfl⟩ := H
                            go_wp2_with (first | (go_at_call 94; (with_reducible refine (corebankref08_Plain.calls kj1 a0 true _ A5.out).mono ?_); rintro e w' ⟨rfl, ⟨nd, rfl⟩⟩; (try first | exact ⟨rfl, _, World.drewN_drewN _ _ _⟩ | exact ⟨rfl, _, Eq.trans (World.drewN_drewN _ _ _) (congrArg (World.drewN _) (Nat.add_assoc _ _ _))⟩)) | (go_at_call 95; (with_reducible refine (corebankref08_rest.calls kj1 (a0 ++ (⟨#[48, 48]⟩ : ByteArray)) t102 _ A8.out).mono ?_); rintro e w' ⟨rfl, ⟨nd, rfl⟩⟩; (try first | exact ⟨rfl, _, World.drewN_drewN _ _ _⟩ | exact ⟨rfl, _, Eq.trans (World.drewN_drewN _ _ _) (congrArg (World.drewN _) (Nat.add_assoc _ _ _))⟩)))
                            repeat (go_quiet (first | (go_at_call 94; (with_reducible refine (corebankref08_Plain.calls kj1 a0 true _ A5.out).mono ?_); rintro e w' ⟨rfl, ⟨nd, rfl⟩⟩; (try first | exact ⟨rfl, _, World.drewN_drewN _ _ _⟩ | exact ⟨rfl, _, Eq.trans (World.drewN_drewN _ _ _) (congrArg (World.drewN _) (Nat.add_assoc _ _ _))⟩)) | (go_at_call 95; (with_reducible refine (corebankref08_rest.calls kj1 (a0 ++ (⟨#[48, 48]⟩ : ByteArray)) t102 _ A8.out).mono ?_); rintro e w' ⟨rfl, ⟨nd, rfl⟩⟩; (try first | exact ⟨rfl, _, World.drewN_drewN _ _ _⟩ | exact ⟨rfl, _, Eq.trans (World.drewN_drewN _ _ _) (congrArg (World.drewN _) (Nat.add_assoc _ _ _))⟩))); try go_wp2_with (first | (go_at_call 94; (with_reducible refine (corebankref08_Plain.calls kj1 a0 true _ A5.out).mono ?_); rintro e w' ⟨rfl, ⟨nd, rfl⟩⟩; (try first | exact ⟨rfl, _, World.drewN_drewN _ _ _⟩ | exact ⟨rfl, _, Eq.trans (World.drewN_drewN _ _ _) (congrArg (World.drewN _) (Nat.add_assoc _ _ _))⟩)) | (go_at_call 95; (with_reducible refine (corebankref08_rest.calls kj1 (a0 ++ (⟨#[48, 48]⟩ : ByteArray)) t102 _ A8.out).mono ?_); rintro e w' ⟨rfl, ⟨nd, rfl⟩⟩; (try first | exact ⟨rfl, _, World.drewN_drewN _ _ _⟩ | exact ⟨rfl, _, Eq.trans (World.drewN_drewN _ _ _) (congrArg (World.drewN _) (Nat.add_assoc _ _ _))⟩))))
                            go_ret2
                            exact ⟨by first | rfl | (simp; done) | (simp only [← hji9, ← hji14] <;> (first | rfl | simp)) | (simp [*]; done), by repeat (first | exact Drawn0.refl _ | apply Drawn0.step)⟩
                          · rw [if_neg c18] at H
                            exact absurd H (by simp)
                        · rw [if_neg c17] at H
                          exact absurd H (by simp)
                      · rw [if_neg c16] at H
                        exact absurd H (by simp)
                    · rw [if_neg c15] at H
                      exact absurd H (by simp)
                  · rw [if_neg c13] at H
                    exact absurd H (by simp)
                · rw [if_neg c12] at H
                  exact absurd H (by simp)
              · rw [if_neg c11] at H
                exact absurd H (by simp)
            · rw [if_neg c10] at H
              exact absurd H (by simp)
          · rw [if_neg c7] at H
            exact absurd H (by simp)
        · replace c6 := Bool.eq_false_iff.mpr c6
          subst c6
          have H1 : (some ((⟨#[]⟩ : ByteArray), 2)) = some (r1, r2) := by rw [if_neg (show ¬ (false = true) by decide)] at H; exact H
          clear H
          have H := H1
          clear H1
          simp only [Option.some.injEq, Prod.mk.injEq] at H
          obtain ⟨rfl, rfl⟩ := H
          go_wp2_with (first | (go_at_call 94; (with_reducible refine (corebankref08_Plain.calls kj1 a0 false _ A5.out).mono ?_); rintro e w' ⟨rfl, ⟨nd, rfl⟩⟩; (try first | exact ⟨rfl, _, World.drewN_drewN _ _ _⟩ | exact ⟨rfl, _, Eq.trans (World.drewN_drewN _ _ _) (congrArg (World.drewN _) (Nat.add_assoc _ _ _))⟩)))
          repeat (go_quiet (first | (go_at_call 94; (with_reducible refine (corebankref08_Plain.calls kj1 a0 false _ A5.out).mono ?_); rintro e w' ⟨rfl, ⟨nd, rfl⟩⟩; (try first | exact ⟨rfl, _, World.drewN_drewN _ _ _⟩ | exact ⟨rfl, _, Eq.trans (World.drewN_drewN _ _ _) (congrArg (World.drewN _) (Nat.add_assoc _ _ _))⟩))); try go_wp2_with (first | (go_at_call 94; (with_reducible refine (corebankref08_Plain.calls kj1 a0 false _ A5.out).mono ?_); rintro e w' ⟨rfl, ⟨nd, rfl⟩⟩; (try first | exact ⟨rfl, _, World.drewN_drewN _ _ _⟩ | exact ⟨rfl, _, Eq.trans (World.drewN_drewN _ _ _) (congrArg (World.drewN _) (Nat.add_assoc _ _ _))⟩))))
          go_ret2
          exact ⟨by first | rfl | (simp; done) | (simp [*]; done), by repeat (first | exact Drawn0.refl _ | apply Drawn0.step)⟩

end Go.Proofs.Ytlmabdiodopidaa.Q
end
section
set_option linter.unusedVariables false
set_option linter.unusedSimpArgs false
namespace Go.Proofs.Ytlmabdiodopidaa.Q
open Go.Proofs.Ytlmabdiodopidaa.G
attribute [local go_sem high] un_not64 un_noti run_add64
open Go.RowKit Go.Proofs.YtlmabdiodopidaaW.PrintWords Go.Proofs.YtlmabdiodopidaaW.PrintLast Go.Proofs.YtlmabdiodopidaaW.PrintMore
attribute [local go_sem] max2_int min2_int max_two min_two max_three min_three max_four min_four   -- for this text's walks alone
set_option linter.unusedVariables false
set_option linter.unusedSimpArgs false

/-! ### corebankref24_Number: function 73 -/
mutual
def corebankref24_Number.j0 : Nat → Int → Bool → Option (ByteArray)
  | 0, _, _ => none
  | k + 1, x0, x12 => if x12 = true then (some (⟨#[]⟩ : ByteArray)) else (corebankref24_Number.l0 k x0 (⟨#[]⟩ : ByteArray) 0)
def corebankref24_Number.l0 : Nat → Int → ByteArray → Int → Option (ByteArray)
  | 0, _, _, _ => none
  | k + 1, x0, x3, x4 => if x4 < 8 then (if 0 ≤ (Int.tmod x0 10) then (if (Int.tmod x0 10) ≤ (wrap64 ((Int.tmod x0 10) + 1)) then (if (wrap64 ((Int.tmod x0 10) + 1)) ≤ 10 then (if ((⟨#[48, 49, 50, 51, 52, 53, 54, 55, 56, 57]⟩ : ByteArray).extract ((Int.tmod x0 10) : Int).toNat ((wrap64 ((Int.tmod x0 10) + 1)) : Int).toNat).size + x3.size ≤ 9223372036854775807 then (corebankref24_Number.l0 k (wrap64 (Int.tdiv x0 10)) (((⟨#[48, 49, 50, 51, 52, 53, 54, 55, 56, 57]⟩ : ByteArray).extract ((Int.tmod x0 10) : Int).toNat ((wrap64 ((Int.tmod x0 10) + 1)) : Int).toNat) ++ x3) (wrap64 (x4 + 1))) else (none)) else (none)) else (none)) else (none)) else (if 2 + x3.size ≤ 9223372036854775807 then ((corebankref08_Seal.f k ((⟨#[67, 66]⟩ : ByteArray) ++ x3)).bind fun bt103 => (some bt103.1)) else (none))
end
def corebankref24_Number.f (k : Nat) (a0 : Int) : Option (ByteArray) := if a0 < 1000 then (corebankref24_Number.j0 k a0 true) else (corebankref24_Number.j0 k a0 (decide (a0 > 99999999)))
theorem corebankref24_Number.mono_l : ∀ k, (∀ y0 y1, LeO (corebankref24_Number.j0 k y0 y1) (corebankref24_Number.j0 (k + 1) y0 y1)) ∧ (∀ y0 y1 y2, LeO (corebankref24_Number.l0 k y0 y1 y2) (corebankref24_Number.l0 (k + 1) y0 y1 y2))
  | 0 => ⟨fun _ _ r h => by simp [corebankref24_Number.j0] at h, fun _ _ _ r h => by simp [corebankref24_Number.l0] at h⟩
  | k + 1 => by
    obtain ⟨ih0, ih1⟩ := corebankref24_Number.mono_l k
    refine ⟨?_, ?_⟩
    · intro y0 y1
      unfold corebankref24_Number.j0
      repeat' first
      | (with_reducible exact ih0 _ _)
      | (with_reducible exact ih1 _ _ _)
      | (with_reducible exact corebankref08_Seal.mono _ _)
      | (with_reducible exact LeO.refl _)
      | (with_reducible exact LeO.none _)
      | (with_reducible refine LeO.ite ?_ ?_)
      | (with_reducible refine LeO.bind ?_ (fun _ => ?_))
      | exact ih0 _ _
      | exact ih1 _ _ _
      | exact corebankref08_Seal.mono _ _
      | exact LeO.none _
      | refine LeO.ite ?_ ?_
      | refine LeO.bind ?_ (fun _ => ?_)
    · intro y0 y1 y2
      unfold corebankref24_Number.l0
      repeat' first
      | (with_reducible exact ih0 _ _)
      | (with_reducible exact ih1 _ _ _)
      | (with_reducible exact corebankref08_Seal.mono _ _)
      | (with_reducible exact LeO.refl _)
      | (with_reducible exact LeO.none _)
      | (with_reducible refine LeO.ite ?_ ?_)
      | (with_reducible refine LeO.bind ?_ (fun _ => ?_))
      | exact ih0 _ _
      | exact ih1 _ _ _
      | exact corebankref08_Seal.mono _ _
      | exact LeO.none _
      | refine LeO.ite ?_ ?_
      | refine LeO.bind ?_ (fun _ => ?_)
theorem corebankref24_Number.mono : ∀ a0 k, LeO (corebankref24_Number.f k a0) (corebankref24_Number.f (k + 1) a0) := by
  intro a0 k
  obtain ⟨ih0, ih1⟩ := corebankref24_Number.mono_l k
  unfold corebankref24_Number.f
  repeat' first
      | (with_reducible exact ih0 _ _)
      | (with_reducible exact ih1 _ _ _)
      | (with_reducible exact corebankref08_Seal.mono _ _)
      | (with_reducible exact LeO.refl _)
      | (with_reducible exact LeO.none _)
      | (with_reducible refine LeO.ite ?_ ?_)
      | (with_reducible refine LeO.bind ?_ (fun _ => ?_))
      | exact ih0 _ _
      | exact ih1 _ _ _
      | exact corebankref08_Seal.mono _ _
      | exact LeO.none _
      | refine LeO.ite ?_ ?_
      | refine LeO.bind ?_ (fun _ => ?_)
set_option maxHeartbeats 8000000 in
set_option maxRecDepth 100000 in
theorem corebankref24_Number.calls (k : Nat) (a0 : Int) (r : ByteArray) (w : World) (h : corebankref24_Number.f k a0 = some r) :
    Calls Try.prog 73 #[.int .i64 a0] w fun e w' => e = .returned (.string r) ∧ Drawn0 w w' := by
  have H : (if a0 < 1000 then (corebankref24_Number.j0 k a0 true) else (corebankref24_Number.j0 k a0 (decide (a0 > 99999999)))) = some r := h
  clear h
  have HC2 := Aside0.mk H
  clear H
  go_enter Try.func73, Try.ntmps73
  go_upto_region 1 with (fail)
  go_cut [12] (fun v12 wc => ∃ (kq : Nat) (x12_1 : Bool), v12 = .bool x12_1 ∧ Aside0 (corebankref24_Number.j0 kq a0 x12_1 = some r) ∧ Aside0 (kq ≤ k) ∧ Drawn0 w wc)
  case first =>
    have H := HC2.out
    clear HC2
    by_cases c3 : a0 < 1000
    · rw [if_pos c3] at H
      have c3b0 : decide (a0 < 1000) = true := decide_eq_true c3
      clear c3
      (first | rw [c3b0] | (simp only [i64_w, i32_w]; rw [c3b0]) | skip)
      have H' := Aside0.mk H
      clear H
      go_wp2
      go_meet
      case rel => exact ⟨_, (true), (by first | rfl | (simp; done) | (simp [*]; done)), H', ⟨by first | omega | exact Nat.le_refl _⟩, by repeat (first | exact Drawn0.refl _ | apply Drawn0.step)⟩
    · rw [if_neg c3] at H
      have c3b0 : decide (a0 < 1000) = false := decide_eq_false c3
      clear c3
      (first | rw [c3b0] | (simp only [i64_w, i32_w]; rw [c3b0]) | skip)
      have H' := Aside0.mk H
      clear H
      go_wp2
      go_meet
      case rel => exact ⟨_, (decide (a0 > 99999999)), (by first | rfl | (simp; done) | (simp [*]; done)), H', ⟨by first | omega | exact Nat.le_refl _⟩, by repeat (first | exact Drawn0.refl _ | apply Drawn0.step)⟩
  case rest =>
    clear HC2
    try clear p2
    try clear c3
    try clear c3b0
    obtain ⟨kq, x12_1, rfl, HA, HJ1, ⟨mc1, rfl⟩⟩ := hcut
    cases kq with
    | zero => exact absurd HA.out (by simp [corebankref24_Number.j0])
    | succ kj1 =>
      have H := HA.out
      clear HA
      simp only [corebankref24_Number.j0] at H
      by_cases c4 : x12_1 = true
      · subst c4
        have H1 : (some (⟨#[]⟩ : ByteArray)) = some r := by rw [if_pos rfl] at H; exact H
        clear H
        have H := H1
        clear H1
        obtain rfl := Option.some.inj H
        go_wp2
        go_ret
        exact ⟨by first | rfl | (simp; done) | (simp [*]; done), by repeat (first | exact Drawn0.refl _ | apply Drawn0.step)⟩
      · replace c4 := Bool.eq_false_iff.mpr c4
        subst c4
        have H1 : (corebankref24_Number.l0 kj1 a0 (⟨#[]⟩ : ByteArray) 0) = some r := by rw [if_neg (show ¬ (false = true) by decide)] at H; exact H
        clear H
        have H := H1
        clear H1
        have H' := Aside0.mk H
        clear H
        go_wp2
        go_loopg [0, 3, 4] kj1 (fun kq v0 v3 v4 w' => ∃ (x0_2 : Int) (x3_2 : ByteArray) (x4_2 : Int), v0 = .int .i64 x0_2 ∧ v3 = .string x3_2 ∧ v4 = .int .i64 x4_2 ∧ Aside0 (corebankref24_Number.l0 kq x0_2 x3_2 x4_2 = some r) ∧ Aside0 (kq ≤ kj1) ∧ Drawn0 w w')
        case atStart => exact ⟨(a0), ((⟨#[]⟩ : ByteArray)), (0), (by first | rfl | (simp; done) | (simp [*]; done)), (by first | rfl | (simp; done) | (simp [*]; done)), (by first | rfl | (simp; done) | (simp [*]; done)), H', ⟨Nat.le_refl _⟩, by repeat (first | exact Drawn0.refl _ | apply Drawn0.step)⟩
        case round =>
          clear H'
          try clear c1
          try clear p2
          try clear c3
          try clear c3b0
          try clear c4
          try clear p2
          obtain ⟨x0_2, x3_2, x4_2, rfl, rfl, rfl, HA, HK2, ⟨m2, rfl⟩⟩ := hrel
          cases gk with
          | zero => exact absurd HA.out (by simp [corebankref24_Number.l0])
          | succ k2 =>
            have H := HA.out
            clear HA
            simp only [corebankref24_Number.l0] at H
            by_cases c5 : x4_2 < 8
            · rw [if_pos c5] at H
              have c5b0 : decide (x4_2 < 8) = true := decide_eq_true c5
              clear c5
              obtain ⟨ji6, hji6⟩ : ∃ j_ : Int, (Int.tmod x0_2 10) = j_ := ⟨_, rfl⟩
              replace H : (if 0 ≤ (ji6) then (if (ji6) ≤ (wrap64 ((ji6) + 1)) then (if (wrap64 ((ji6) + 1)) ≤ 10 then (if ((⟨#[48, 49, 50, 51, 52, 53, 54, 55, 56, 57]⟩ : ByteArray).extract ((ji6) : Int).toNat ((wrap64 ((ji6) + 1)) : Int).toNat).size + x3_2.size ≤ 9223372036854775807 then (corebankref24_Number.l0 k2 (wrap64 (Int.tdiv x0_2 10)) (((⟨#[48, 49, 50, 51, 52, 53, 54, 55, 56, 57]⟩ : ByteArray).extract ((ji6) : Int).toNat ((wrap64 ((ji6) + 1)) : Int).toNat) ++ x3_2) (wrap64 (x4_2 + 1))) else (none)) else (none)) else (none)) else (none)) = some r := by first | (rw [hji6] at H; exact H) | (simp only [hji6] at H ⊢; exact H)
              by_cases c7 : 0 ≤ (ji6)
              · rw [if_pos c7] at H
                have c7b0 := eq_true c7
                have c7b1 : decide (0 ≤ (ji6)) = true := decide_eq_true c7
                clear c7
                by_cases c8 : (ji6) ≤ (wrap64 ((ji6) + 1))
                · rw [if_pos c8] at H
                  have c8b0 := eq_true c8
                  have c8b1 : decide ((ji6) ≤ (wrap64 ((ji6) + 1))) = true := decide_eq_true c8
                  by_cases c9 : (wrap64 ((ji6) + 1)) ≤ 10
                  · rw [if_pos c9] at H
                    have c9b0 := eq_true c9
                    have c9b1 : decide ((wrap64 ((ji6) + 1)) ≤ 10) = true := decide_eq_true c9
                    by_cases c10 : ((⟨#[48, 49, 50, 51, 52, 53, 54, 55, 56, 57]⟩ : ByteArray).extract ((ji6) : Int).toNat ((wrap64 ((ji6) + 1)) : Int).toNat).size + x3_2.size ≤ 9223372036854775807
                    · rw [if_pos c10] at H
                      have c10b0 := eq_true c10
                      have c10b1 : decide (((⟨#[48, 49, 50, 51, 52, 53, 54, 55, 56, 57]⟩ : ByteArray).extract ((ji6) : Int).toNat ((wrap64 ((ji6) + 1)) : Int).toNat).size + x3_2.size ≤ 9223372036854775807) = true := decide_eq_true c10
                      try have c10b2 : (9223372036854775807 < ((⟨#[48, 49, 50, 51, 52, 53, 54, 55, 56, 57]⟩ : ByteArray).extract ((ji6) : Int).toNat ((wrap64 ((ji6) + 1)) : Int).toNat).size + x3_2.size) = False := eq_false (Nat.not_lt.2 c10)
                      have H' := Aside0.mk H
                      clear H
                      go_wp2
                      go_roundg k2
                      case measure => have := HJ1.out; have := HK2.out; omega
                      case rel => exact ⟨(wrap64 (Int.tdiv x0_2 10)), (((⟨#[48, 49, 50, 51, 52, 53, 54, 55, 56, 57]⟩ : ByteArray).extract ((ji6) : Int).toNat ((wrap64 ((ji6) + 1)) : Int).toNat) ++ x3_2), (wrap64 (x4_2 + 1)), (by first | rfl | (simp; done) | (simp [*]; done)), (by first | rfl | (simp; done) | (simp only [← hji6] <;> (first | rfl | simp)) | (simp [*]; done)), (by first | rfl | (simp; done) | (simp [*]; done)), H', ⟨by have := HJ1.out; have := HK2.out; omega⟩, by repeat (first | exact Drawn0.refl _ | apply Drawn0.step)⟩
                    · rw [if_neg c10] at H
                      exact absurd H (by simp)
                  · rw [if_neg c9] at H
                    exact absurd H (by simp)
                · rw [if_neg c8] at H
                  exact absurd H (by simp)
              · rw [if_neg c7] at H
                exact absurd H (by simp)
            · rw [if_neg c5] at H
              have c5b0 : decide (x4_2 < 8) = false := decide_eq_false c5
              clear c5
              by_cases c11 : 2 + x3_2.size ≤ 9223372036854775807
              · rw [if_pos c11] at H
                have c11b0 := eq_true c11
                have c11b1 : decide (2 + x3_2.size ≤ 9223372036854775807) = true := decide_eq_true c11
                try have c11b2 : (9223372036854775807 < 2 + x3_2.size) = False := eq_false (Nat.not_lt.2 c11)
                replace H := Option.bind_eq_some_iff.mp H
                obtain ⟨⟨t103, t104⟩, A120, H⟩ := H
                replace H : (some t103) = some r := H
                have A12 := Aside0.mk A120
                clear A120
                obtain rfl := Option.some.inj H
                go_wp2_with (first | ((with_reducible refine gate_callee (f := 85) rfl ?_); refine goesL_ (some 30) rfl rfl Try.func85 (by kernel_rfl) rfl #[.string ((⟨#[67, 66]⟩ : ByteArray) ++ x3_2)] rfl zm ?_; (with_reducible refine (corebankref08_Seal.calls k2 ((⟨#[67, 66]⟩ : ByteArray) ++ x3_2) t103 t104 _ A12.out).mono ?_); rintro e w' ⟨rfl, ⟨nd, rfl⟩⟩; refine ⟨_, rfl, ?_⟩))
                go_ret
                exact ⟨by first | rfl | (simp; done) | (simp [*]; done), by repeat (first | exact Drawn0.refl _ | apply Drawn0.step)⟩
              · rw [if_neg c11] at H
                exact absurd H (by simp)

end Go.Proofs.Ytlmabdiodopidaa.Q
end
section
set_option linter.unusedVariables false
set_option linter.unusedSimpArgs false
namespace Go.Proofs.Ytlmabdiodopidaa.G
set_option maxRecDepth 100000
open Go.RowKit Go.Proofs.YtlmabdiodopidaaW.PrintWords Go.Proofs.YtlmabdiodopidaaW.PrintLast Go.Proofs.YtlmabdiodopidaaW.PrintMore Go.Proofs.Ytlmabdiodopidaa.P
/-- the number of the sample's account -/
def numS : ByteArray := (Go.Proofs.Ytlmabdiodopidaa.Q.corebankref24_Number.f 100 1000).getD ⟨#[]⟩
theorem num_ok : Go.Proofs.Ytlmabdiodopidaa.Q.corebankref24_Number.f 100 1000 = some numS := by
  have h : (Go.Proofs.Ytlmabdiodopidaa.Q.corebankref24_Number.f 100 1000).isSome = true := by decide +kernel
  unfold numS
  cases hh : Go.Proofs.Ytlmabdiodopidaa.Q.corebankref24_Number.f 100 1000 with
  | none => rw [hh] at h; cases h
  | some v => rfl
abbrev zBks : List Value := [.slice none 0 0, .slice none 0 0, .slice none 0 0, .int .i64 0, .int .i64 0, .int .i64 0, .int .i64 0, .int .i64 0, .int .i64 0, .int .i64 0, .int .i64 0, .int .i64 0, .int .i64 0, .int .i64 0, .int .i64 0, .int .i64 0, .int .i64 0, .slice none 0 0, .slice none 0 0, .slice none 0 0, .slice none 0 0, .slice none 0 0]
abbrev sTier : List Value := [.int .i64 0, .int .i64 15000]
abbrev sInt (g : Nat) : List Value := [.slice (some ⟨g, 0, none⟩) 1 1, .bool false, .int .i64 2, .int .i64 1, .bool false]
abbrev sAcc : List Value := [.int .i64 1000, .int .i64 1, .int .i64 0, .int .i64 0, .string ⟨#[97, 110, 110]⟩, .string ⟨#[103, 105, 114, 111]⟩, .string numS]
abbrev sLegs (a b : Int) : List Value := [.int .i64 1000, .int .i64 a, .string ⟨#[69, 85, 82]⟩, .int .i64 1, .int .i64 b, .string ⟨#[69, 85, 82]⟩]
abbrev sEnt (d : Int) (g : Nat) : List Value := [.int .i64 0, .int .i64 d, .int .i64 d, .int .i64 0, .int .i64 0, .int .i64 0, .string ⟨#[]⟩, .string ⟨#[]⟩, .slice (some ⟨g, 0, none⟩) 2 2, .int .u64 0]
abbrev sPrd (g : Nat) : List Value := [.string ⟨#[103, 105, 114, 111]⟩, .string ⟨#[69, 85, 82]⟩, .string ⟨#[]⟩, .int .i64 0, .int .i64 0, .int .i64 0, .int .i64 0, .slice (some ⟨g, 0, none⟩) 1 1, .bool false, .int .i64 2, .int .i64 1, .bool false, .slice (some ⟨g, 0, none⟩) 1 1, .bool false, .int .i64 2, .int .i64 1, .bool false, .slice none 0 0, .slice none 0 0]
abbrev sBks (p a j : Nat) : List Value := [.slice none 0 0, .slice none 0 0, .slice none 0 0, .int .i64 0, .int .i64 0, .int .i64 0, .int .i64 0, .int .i64 0, .int .i64 0, .int .i64 0, .int .i64 0, .int .i64 0, .int .i64 0, .int .i64 0, .int .i64 0, .int .i64 0, .int .i64 0, .slice (some ⟨p, 0, none⟩) 1 1, .slice (some ⟨a, 0, none⟩) 1 1, .slice (some ⟨j, 0, none⟩) 2 2, .slice none 0 0, .slice none 0 0]
/-- a list that lies in a block of its own -/
theorem C_blk {α : Type} {d : Kd α} {w : World} {g t : Nat} {cells : List Value} {xs : List α} (h : Blk w g cells t) (hr : Reps (d.K w) d.sz xs cells) (hm : xs.length ≤ 9223372036854775807) : d.C w (some ⟨g, 0, none⟩) xs.length xs :=
  ⟨rfl, hm, fun _ => ⟨_, rfl, fun j p hj => ⟨(cells.drop (j * d.sz)).take d.sz, d.K_len (hr.2 j p hj), hr.2 j p hj, fun i u hu => by
    rw [List.getElem?_take] at hu
    split at hu
    · rw [List.getElem?_drop] at hu
      exact h.rng _ u hu
    · cases hu⟩⟩⟩
def samIntr : Intr := ⟨[⟨0, 15000⟩], false, 2, .int .i64 1, .bool false⟩
def samPrd : Prd := ⟨⟨#[103, 105, 114, 111]⟩, .string ⟨#[69, 85, 82]⟩, .string ⟨#[]⟩, 0, .int .i64 0, .int .i64 0, .int .i64 0, samIntr, samIntr, .slice none 0 0, .slice none 0 0⟩
def samAcc : Acc := ⟨1000, 1, 0, .int .i64 0, .string ⟨#[97, 110, 110]⟩, ⟨#[103, 105, 114, 111]⟩, .string numS⟩
def samEnt (d a b : Int) : Ent := ⟨.int .i64 0, d, d, .int .i64 0, .int .i64 0, .int .i64 0, .string ⟨#[]⟩, .string ⟨#[]⟩, [⟨1000, a, .string ⟨#[69, 85, 82]⟩⟩, ⟨1, b, .string ⟨#[69, 85, 82]⟩⟩], .int .u64 0⟩
def samPlan : Plan := ⟨.int .i64 0, .int .i64 0, .int .i64 0, .int .i64 0, .int .i64 0, .int .i64 0, .int .i64 0, .int .i64 0, .int .i64 0, .int .i64 0, .int .i64 0, .int .i64 0, .int .i64 0, .int .i64 0⟩
/-- the books of the sample -/
def samB : Bk := ⟨.slice none 0 0, .slice none 0 0, .slice none 0 0, samPlan, [samPrd], [samAcc], [samEnt 2 (-100000) 100000, samEnt 4 200000 (-200000)], .slice none 0 0, .slice none 0 0⟩
theorem samIntr_K {w : World} {g : Nat} (h : Blk w g sTier 50) : kIntr.K w samIntr (sInt g) :=
  ⟨_, _, rfl, ⟨some ⟨g, 0, none⟩, 1, rfl, Nat.le_refl _, C_blk (d := k50) (xs := samIntr.tiers) h (Reps.c2 ⟨_, _, rfl, rfl, rfl⟩ (Reps.none _ _)) (show (1 : Nat) ≤ _ by decide)⟩, _, _, rfl, rfl, _, _, rfl, rfl, _, _, rfl, ⟨rfl, rfl⟩, ⟨rfl, rfl⟩⟩
theorem samPrd_K {w : World} {g : Nat} (h : Blk w g sTier 50) : kPrd.K w samPrd (sPrd g) :=
  ⟨_, _, rfl, rfl, _, _, rfl, ⟨rfl, rfl⟩, _, _, rfl, ⟨rfl, rfl⟩, _, _, rfl, rfl, _, _, rfl, ⟨rfl, rfl⟩, _, _, rfl, ⟨rfl, rfl⟩, _, _, rfl, ⟨rfl, rfl⟩, sInt g, _, rfl, samIntr_K h, sInt g, _, rfl, samIntr_K h, _, _, rfl, ⟨rfl, rfl⟩, ⟨rfl, rfl⟩⟩
theorem samAcc_K (w : World) : kAcc.K w samAcc sAcc := ⟨_, _, rfl, rfl, _, _, rfl, rfl, _, _, rfl, rfl, _, _, rfl, ⟨rfl, rfl⟩, _, _, rfl, ⟨rfl, rfl⟩, _, _, rfl, rfl, ⟨rfl, rfl⟩⟩
theorem samLeg_K (w : World) (a b : Int) : kLeg.K w ⟨a, b, .string ⟨#[69, 85, 82]⟩⟩ [.int .i64 a, .int .i64 b, .string ⟨#[69, 85, 82]⟩] := ⟨_, _, rfl, rfl, _, _, rfl, rfl, ⟨rfl, rfl⟩⟩
theorem samEnt_K {w : World} {g : Nat} (d a b : Int) (h : Blk w g (sLegs a b) 132) : kEnt.K w (samEnt d a b) (sEnt d g) :=
  ⟨_, _, rfl, ⟨rfl, rfl⟩, _, _, rfl, rfl, _, _, rfl, rfl, _, _, rfl, ⟨rfl, rfl⟩, _, _, rfl, ⟨rfl, rfl⟩, _, _, rfl, ⟨rfl, rfl⟩, _, _, rfl, ⟨rfl, rfl⟩, _, _, rfl, ⟨rfl, rfl⟩, _, _, rfl, ⟨some ⟨g, 0, none⟩, 2, rfl, Nat.le_refl _, C_blk (d := kLeg) (xs := (samEnt d a b).legs) h (Reps.c3 (samLeg_K w 1000 a) (Reps.c3 (samLeg_K w 1 b) (Reps.none _ _))) (show (2 : Nat) ≤ _ by decide)⟩, ⟨rfl, rfl⟩⟩
theorem samB_K {w : World} {gt gp ga gj gl gm : Nat} (hp : Blk w gp (sPrd gt) 98) (ht : Blk w gt sTier 50) (ha : Blk w ga sAcc 101) (hj : Blk w gj (sEnt 2 gl ++ sEnt 4 gm) 82) (hl : Blk w gl (sLegs (-100000) 100000) 132) (hm : Blk w gm (sLegs 200000 (-200000)) 132) : kBk.K w samB (sBks gp ga gj) :=
  ⟨_, _, rfl, ⟨rfl, rfl⟩, _, _, rfl, ⟨rfl, rfl⟩, _, _, rfl, ⟨rfl, rfl⟩, List.replicate 14 (.int .i64 0), _, rfl, ⟨_, _, rfl, ⟨rfl, rfl⟩, _, _, rfl, ⟨rfl, rfl⟩, _, _, rfl, ⟨rfl, rfl⟩, _, _, rfl, ⟨rfl, rfl⟩, _, _, rfl, ⟨rfl, rfl⟩, _, _, rfl, ⟨rfl, rfl⟩, _, _, rfl, ⟨rfl, rfl⟩, _, _, rfl, ⟨rfl, rfl⟩, _, _, rfl, ⟨rfl, rfl⟩, _, _, rfl, ⟨rfl, rfl⟩, _, _, rfl, ⟨rfl, rfl⟩, _, _, rfl, ⟨rfl, rfl⟩, _, _, rfl, ⟨rfl, rfl⟩, ⟨rfl, rfl⟩⟩,
    _, _, rfl, ⟨some ⟨gp, 0, none⟩, 1, rfl, Nat.le_refl _, C_blk (d := kPrd) (xs := [samPrd]) hp (Reps.front (samPrd_K ht) rfl (Reps.none _ _) rfl) (by decide)⟩,
    _, _, rfl, ⟨some ⟨ga, 0, none⟩, 1, rfl, Nat.le_refl _, C_blk (d := kAcc) (xs := [samAcc]) ha (Reps.front (samAcc_K w) rfl (Reps.none _ _) rfl) (by decide)⟩,
    _, _, rfl, ⟨some ⟨gj, 0, none⟩, 2, rfl, Nat.le_refl _, C_blk (d := kEnt) (xs := samB.jour) hj (Reps.front (samEnt_K 2 (-100000) 100000 hl) rfl (Reps.front (samEnt_K 4 200000 (-200000) hm) rfl (Reps.none _ _) rfl) rfl) (show (2 : Nat) ≤ _ by decide)⟩,
    _, _, rfl, ⟨rfl, rfl⟩, ⟨rfl, rfl⟩⟩
set_option maxHeartbeats 4000000 in
theorem sample_calls (w : World) :
    Calls Try.prog 50 #[] w fun e w' => ∃ cs : List Value, e = .returned (.agg cs.toArray) ∧ kBk.K w' samB cs ∧ Below w.heap.size w w' := by
  go_enter Try.func50, Try.ntmps50
  go_upto_region 2 with (fail)
  have G1 := Aside0.mk (((Blk.new w zBks 63).alloc (.cells sTier.toArray 50)).alloc (.cells (sInt (w.heap.size + 1)).toArray 94))
  have T1 := Aside0.mk ((Blk.newAt (w.alloc (.cells zBks.toArray 63)) (g := w.heap.size + 1) (by simp) sTier 50).alloc (.cells (sInt (w.heap.size + 1)).toArray 94))
  have X1 := Aside0.mk (Blk.newAt ((w.alloc (.cells zBks.toArray 63)).alloc (.cells sTier.toArray 50)) (g := w.heap.size + 1 + 1) (by simp) (sInt (w.heap.size + 1)) 94)
  have HW := Aside0.mk ((((Below.refl w.heap.size w).alloc (Nat.le_refl _) (.cells zBks.toArray 63)).alloc (by simp) (.cells sTier.toArray 50)).alloc (by simp; omega) (.cells (sInt (w.heap.size + 1)).toArray 94))
  generalize World.alloc _ _ = W1 at *
  go_upto_region 3 with (first
    | (go_at_call 73; refine (Go.Proofs.Ytlmabdiodopidaa.Q.corebankref24_Number.calls 100 1000 numS _ num_ok).mono ?_; rintro e w2 ⟨rfl, hd⟩; have HN : Aside0 (Below W1.heap.size W1 w2) := ⟨by obtain ⟨nd, rfl⟩ := hd; exact pw_below_drewN (Below.refl _ _) nd⟩; clear hd))
  have G2 := Aside0.mk ((G1.out.below HN.out).alloc (.cells sAcc.toArray 101))
  have T2 := Aside0.mk ((T1.out.below HN.out).alloc (.cells sAcc.toArray 101))
  have X2 := Aside0.mk ((X1.out.below HN.out).alloc (.cells sAcc.toArray 101))
  have A2 := Aside0.mk (Blk.new w2 sAcc 101)
  have HW2 := Aside0.mk ((bstep HW.out HN.out).alloc (bstep HW.out HN.out).size (.cells sAcc.toArray 101))
  have O2 := Aside0.mk (show w.heap.size + 1 + 1 < w2.heap.size from Nat.lt_of_lt_of_le X1.out.lt HN.out.size)
  clear G1 T1 X1 HW HN
  generalize World.alloc _ _ = W2 at *
  generalize w2.heap.size = ga at *
  go_upto_region 4 with (fail)
  have G3 := Aside0.mk ((G2.out.alloc (.cells (sLegs (-100000) 100000).toArray 132)).alloc (.cells (sEnt 2 W2.heap.size).toArray 82))
  have T3 := Aside0.mk ((T2.out.alloc (.cells (sLegs (-100000) 100000).toArray 132)).alloc (.cells (sEnt 2 W2.heap.size).toArray 82))
  have X3 := Aside0.mk ((X2.out.alloc (.cells (sLegs (-100000) 100000).toArray 132)).alloc (.cells (sEnt 2 W2.heap.size).toArray 82))
  have A3 := Aside0.mk ((A2.out.alloc (.cells (sLegs (-100000) 100000).toArray 132)).alloc (.cells (sEnt 2 W2.heap.size).toArray 82))
  have L3 := Aside0.mk ((Blk.new W2 (sLegs (-100000) 100000) 132).alloc (.cells (sEnt 2 W2.heap.size).toArray 82))
  have E3 := Aside0.mk (Blk.newAt (W2.alloc (.cells (sLegs (-100000) 100000).toArray 132)) (g := W2.heap.size + 1) (by simp) (sEnt 2 W2.heap.size) 82)
  have HW3 := Aside0.mk ((HW2.out.alloc HW2.out.size (.cells (sLegs (-100000) 100000).toArray 132)).alloc (by have := HW2.out.size; simp; omega) (.cells (sEnt 2 W2.heap.size).toArray 82))
  have O3 := Aside0.mk A2.out.lt
  clear G2 T2 X2 A2 HW2
  generalize World.alloc _ _ = W3 at *
  generalize W2.heap.size = gl at *
  go_upto_region 5 with (fail)
  have G4 := Aside0.mk ((G3.out.alloc (.cells (sLegs 200000 (-200000)).toArray 132)).alloc (.cells (sEnt 4 W3.heap.size).toArray 82))
  have T4 := Aside0.mk ((T3.out.alloc (.cells (sLegs 200000 (-200000)).toArray 132)).alloc (.cells (sEnt 4 W3.heap.size).toArray 82))
  have X4 := Aside0.mk ((X3.out.alloc (.cells (sLegs 200000 (-200000)).toArray 132)).alloc (.cells (sEnt 4 W3.heap.size).toArray 82))
  have A4 := Aside0.mk ((A3.out.alloc (.cells (sLegs 200000 (-200000)).toArray 132)).alloc (.cells (sEnt 4 W3.heap.size).toArray 82))
  have L4 := Aside0.mk ((L3.out.alloc (.cells (sLegs 200000 (-200000)).toArray 132)).alloc (.cells (sEnt 4 W3.heap.size).toArray 82))
  have E4 := Aside0.mk ((E3.out.alloc (.cells (sLegs 200000 (-200000)).toArray 132)).alloc (.cells (sEnt 4 W3.heap.size).toArray 82))
  have M4 := Aside0.mk ((Blk.new W3 (sLegs 200000 (-200000)) 132).alloc (.cells (sEnt 4 W3.heap.size).toArray 82))
  have F4 := Aside0.mk (Blk.newAt (W3.alloc (.cells (sLegs 200000 (-200000)).toArray 132)) (g := W3.heap.size + 1) (by simp) (sEnt 4 W3.heap.size) 82)
  have HW4 := Aside0.mk ((HW3.out.alloc HW3.out.size (.cells (sLegs 200000 (-200000)).toArray 132)).alloc (by have := HW3.out.size; simp; omega) (.cells (sEnt 4 W3.heap.size).toArray 82))
  have O4 := Aside0.mk E3.out.lt
  clear G3 T3 X3 A3 L3 E3 HW3
  generalize World.alloc _ _ = W4 at *
  generalize W3.heap.size = gm at *
  go_wp2_with (first
    | (refine ld_rng rfl 94 _ rfl (p := ⟨w.heap.size + 1 + 1, 0, none⟩) rfl (cs := sInt (w.heap.size + 1)) X4.out.rng Try.underlying94 rfl ?_ ?_; kernel_rfl)
    | (refine ld_rng rfl 101 _ rfl (p := ⟨ga, 0, none⟩) rfl (cs := sAcc) (A4.out.alloc _).rng Try.underlying101 rfl ?_ ?_; kernel_rfl)
    | (refine ld_rng rfl 82 _ rfl (p := ⟨gl + 1, 0, none⟩) rfl (cs := sEnt 2 gl) ((E4.out.alloc _).alloc _).rng Try.underlying82 rfl ?_ ?_; kernel_rfl)
    | (refine ld_rng rfl 82 _ rfl (p := ⟨gm + 1, 0, none⟩) rfl (cs := sEnt 4 gm) ((F4.out.alloc _).alloc _).rng Try.underlying82 rfl ?_ ?_; kernel_rfl)
    | (refine st_blk rfl 63 _ _ rfl rfl (g := w.heap.size) (vs := sBks W4.heap.size (W4.heap.size + 1) (W4.heap.size + 1 + 1)) rfl rfl (((G4.out.alloc _).alloc _).alloc _) rfl ?_ (by simp [Value.oneCell']) ?_; kernel_rfl; intro J))
  have o2 := O2.out
  have o3 := O3.out
  have o4 := O4.out
  have o5 := F4.out.lt
  refine bodyPost_ret (ret_cell Try.results50 _ _ rfl J Try.underlying63 rfl (by kernel_rfl)) rfl ⟨_, rfl, samB_K (gt := w.heap.size + 1) (gp := W4.heap.size) (ga := W4.heap.size + 1) (gj := W4.heap.size + 1 + 1) (gl := gl) (gm := gm) ?_ ?_ ?_ ?_ ?_ ?_, Below.setCells _ (by omega) _ _ (((HW4.out.alloc HW4.out.size _).alloc (by have := HW4.out.size; simp; omega) _).alloc (by have := HW4.out.size; simp; omega) _)⟩
  · exact Blk.sets w.heap.size (by omega) _ _ (((Blk.new _ _ _).alloc _).alloc _)
  · exact Blk.sets w.heap.size (by omega) _ _ (((T4.out.alloc _).alloc _).alloc _)
  · exact Blk.sets w.heap.size (by omega) _ _ ((Blk.newAt _ (by simp) sAcc 101).alloc _)
  · exact Blk.sets w.heap.size (by omega) _ _ (Blk.newAt _ (by simp) (sEnt 2 gl ++ sEnt 4 gm) 82)
  · exact Blk.sets w.heap.size (by omega) _ _ (((L4.out.alloc _).alloc _).alloc _)
  · exact Blk.sets w.heap.size (by omega) _ _ (((M4.out.alloc _).alloc _).alloc _)
end Go.Proofs.Ytlmabdiodopidaa.G
end
