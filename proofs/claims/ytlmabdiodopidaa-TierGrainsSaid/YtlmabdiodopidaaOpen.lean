/- Arguments that came in, opened: whatever can be read as data of a type is told by that type's kind (numbers, bools, strings, structs, slices, one inside the other). -/
import Derived.Test.YtlmabdiodopidaaBits
import Derived.Test.YtlmabdiodopidaaWMore
import Derived.Deep.Slices
import Derived.ChangeArms
import Derived.ChangeShapes
import Derived.WideShapes
namespace Go.Proofs.Ytlmabdiodopidaa.G
open Go.RowKit Go.ChangeShapes Go.WideShapes Go.Deep Go.Proofs.YtlmabdiodopidaaW.PrintWords Go.Proofs.YtlmabdiodopidaaW.PrintLast Go.Proofs.YtlmabdiodopidaaW.PrintMore

/-- Data of type t reads as kind d, and is well formed. -/
def Opens {α : Type} (P : Program) (t : TypeId) (d : Kd α) (wf : α → Prop) : Prop :=
  ∀ (H : Type) (enc : TypeId × Value → H) (w : World) (base : Nat) (spare : Nat → Bool) (held : Bool) (fuel : Nat) (cs : List Value) (x : DataW H × List MemPlace), DataW.trod enc P w base spare held fuel t cs = some x → ∃ a, d.K w a cs ∧ wf a
/-- a number of its kind -/
def okN (k : IntKind) (n : Int) : Prop := (Lit.int k n).wf = true
theorem opens_int {P : Program} {t : TypeId} {k : IntKind} (ht : P.underlying t = some (.int k)) : Opens P t (Kd.int k) (okN k) := by
  intro H enc w base spare held fuel cs x h
  obtain ⟨n, rfl, _, hw⟩ := DataW.trod_int ht h
  exact ⟨n, rfl, hw⟩
theorem opens_bool {P : Program} {t : TypeId} (ht : P.underlying t = some .bool) : Opens P t Kd.bool (fun _ => True) := by
  intro H enc w base spare held fuel cs x h
  obtain ⟨n, rfl, _⟩ := DataW.trod_bool ht h
  exact ⟨n, rfl, trivial⟩
theorem opens_string {P : Program} {t : TypeId} (ht : P.underlying t = some .string) : Opens P t Kd.string (fun s => s.size ≤ 9223372036854775807) := by
  intro H enc w base spare held fuel cs x h
  obtain ⟨n, rfl, _, hw⟩ := DataW.trod_string ht h
  exact ⟨n, rfl, by unfold maxLen at hw; exact hw⟩
/-- what is told of a list -/
def okL {α : Type} (wf : α → Prop) (l : List α) : Prop := l.length ≤ 9223372036854775807 ∧ ∀ x ∈ l, wf x
theorem list_choice {α : Type} {P : Nat → α → Prop} : ∀ n : Nat, (∀ i, i < n → ∃ x, P i x) → ∃ l : List α, l.length = n ∧ ∀ i x, l[i]? = some x → P i x
  | 0, _ => ⟨[], rfl, by simp⟩
  | n + 1, h => by
    obtain ⟨l, hl, hp⟩ := list_choice n (fun i hi => h i (by omega))
    obtain ⟨x, hx⟩ := h n (by omega)
    refine ⟨l ++ [x], by simp [hl], fun i y hy => ?_⟩
    rcases Nat.lt_trichotomy i l.length with h1 | h1 | h1
    · rw [List.getElem?_append_left h1] at hy
      exact hp i y hy
    · subst h1
      rw [List.getElem?_append_right (Nat.le_refl _), Nat.sub_self] at hy
      obtain rfl : x = y := by simpa using hy
      rw [hl]; exact hx
    · rw [List.getElem?_append_right (by omega)] at hy
      obtain ⟨m, hm⟩ : ∃ m, i - l.length = m + 1 := ⟨i - l.length - 1, by omega⟩
      rw [hm] at hy
      simp at hy
theorem opens_slice {α : Type} {P : Program} {t e : TypeId} {d : Kd α} {wf : α → Prop} (e' : Nat) (ht : P.underlying t = some (.slice e)) (hc : P.cellsOf e = d.sz) (he : Opens P e d wf) : Opens P t (Kd.slice e' d) (okL wf) := by
  intro H enc w base spare held fuel cs x h
  rcases open_slice ht h with ⟨rfl, _⟩ | ⟨a, len, cap, m, n, D, Pl, rfl, _, hl, hm, hmm, _, hi⟩
  · exact ⟨[], ⟨none, 0, rfl, Nat.le_refl _, rfl, by simp, fun h0 => absurd h0 (by simp)⟩, by simp [okL]⟩
  · have hlm : len ≤ m := by rw [hmm]; split <;> omega
    unfold maxLen at hm
    obtain ⟨l, hll, hp⟩ := list_choice (P := fun i x => ∃ cs', w.cells? base (a.add (i * P.cellsOf e)) (P.cellsOf e) = some cs' ∧ d.K w x cs' ∧ wf x) len (fun i h0 => by
      obtain ⟨cs', h1, h2⟩ := hi i (by omega)
      obtain ⟨x, h3, h4⟩ := he _ _ _ _ _ _ _ _ _ h2
      exact ⟨x, cs', h1, h3, h4⟩)
    refine ⟨l, ⟨some a, cap, by rw [hll], by omega, rfl, by omega, fun _ => ⟨a, rfl, fun j p hj => ?_⟩⟩, by omega, fun x hx => ?_⟩
    · obtain ⟨cs', h1, h2, _⟩ := hp j p hj
      obtain ⟨_, h3, h4⟩ := World.cells?_some h1
      refine ⟨cs', d.K_len h2, h2, fun i u hu => ?_⟩
      have hil : i < P.cellsOf e := by rw [← h3]; exact (List.getElem?_eq_some_iff.1 hu).1
      have := h4 i hil
      rw [hu, Go.Deep.add_add, hc] at this
      exact this
    · obtain ⟨i, hi', rfl⟩ := List.mem_iff_getElem.1 hx
      obtain ⟨_, _, _, h5⟩ := hp i _ (List.getElem?_eq_getElem hi')
      exact h5

/-- Fields from number i on, whose cells begin at off. -/
def OpensFrom {α : Type} (P : Program) (fs : Array Field) (i off : Nat) (d : Kd α) (wf : α → Prop) : Prop :=
  ∀ (H : Type) (enc : TypeId × Value → H) (w : World) (base : Nat) (spare : Nat → Bool) (held : Bool) (n : Nat) (cs : List Value) (xs : List (DataW H × List MemPlace)), xs.length = fs.size →
    (∀ (j : Nat) (f : Field), fs[j]? = some f → DataW.trod enc P w base spare held n f.type ((cs.drop f.offset).take (P.cellsOf f.type)) = xs[j]?) → ∃ a, d.K w a ((cs.drop off).take d.sz) ∧ wf a
/-- both parts of a pair -/
def wfp {α β : Type} (a : α → Prop) (b : β → Prop) (p : α × β) : Prop := a p.1 ∧ b p.2
theorem opens_last {α : Type} {P : Program} {fs : Array Field} (i off : Nat) (ft : TypeId) (d : Kd α) (wf : α → Prop) (hf : (fs[i]?).map (fun f => (f.offset, f.type)) = some (off, ft)) (hc : P.cellsOf ft = d.sz) (ho : Opens P ft d wf) : OpensFrom P fs i off d wf := by
  intro H enc w base spare held n cs xs hl h
  obtain ⟨f, hf', he⟩ := Option.map_eq_some_iff.1 hf
  simp only [Prod.mk.injEq] at he
  obtain ⟨rfl, rfl⟩ := he
  have h1 := h i f hf'
  have hi : i < fs.size := (Array.getElem?_eq_some_iff.1 hf').1
  rw [List.getElem?_eq_getElem (by omega), hc] at h1
  exact ho _ _ _ _ _ _ _ _ _ h1
theorem opens_cons {α β : Type} {P : Program} {fs : Array Field} (i off off' : Nat) (ft : TypeId) (d : Kd α) (d' : Kd β) (wf : α → Prop) (wf' : β → Prop) (hf : (fs[i]?).map (fun f => (f.offset, f.type)) = some (off, ft)) (hc : P.cellsOf ft = d.sz) (hoff : off' = off + d.sz) (ho : Opens P ft d wf)
    (hr : OpensFrom P fs (i + 1) off' d' wf') : OpensFrom P fs i off (Kd.pair d d') (wfp wf wf') := by
  intro H enc w base spare held n cs xs hl h
  obtain ⟨a, ha, hwa⟩ := opens_last i off ft d wf hf hc ho H enc w base spare held n cs xs hl h
  obtain ⟨b, hb, hwb⟩ := hr H enc w base spare held n cs xs hl h
  refine ⟨(a, b), ⟨_, _, ?_, ha, hb⟩, hwa, hwb⟩
  show List.take (d.sz + d'.sz) _ = _
  rw [List.take_add, List.drop_drop, hoff]
theorem opens_struct {α β : Type} {P : Program} {t : TypeId} {fs : Array Field} {d : Kd α} {wf : α → Prop} (f : β → α) (g : α → β) (hg : ∀ p, f (g p) = p) (ht : P.underlying t = some (.struct fs)) (hc : P.cellsOf t = d.sz) (ho : OpensFrom P fs 0 0 d wf) : Opens P t (Kd.iso d f) (fun x => wf (f x)) := by
  intro H enc w base spare held fuel cs x h
  obtain ⟨xs, n, _, _, hlen, hxl, hf⟩ := DataW.trod_struct ht h
  obtain ⟨a, ha, hw⟩ := ho H enc w base spare held n cs xs hxl hf
  rw [List.drop_zero, ← hc, ← hlen, List.take_length] at ha
  exact ⟨g a, show d.K w (f (g a)) cs by rw [hg]; exact ha, show wf (f (g a)) by rw [hg]; exact hw⟩
theorem opens_imp {α : Type} {P : Program} {t : TypeId} {d : Kd α} {wf wf' : α → Prop} (h : Opens P t d wf) (hi : ∀ x, wf x → wf' x) : Opens P t d wf' := by
  intro H enc w base spare held fuel cs x hx
  obtain ⟨a, h1, h2⟩ := h _ _ _ _ _ _ _ _ _ hx
  exact ⟨a, h1, hi a h2⟩

/-- An argument that is a slice. -/
theorem arg_slice {α : Type} {H : Type} {enc : TypeId × Value → H} {P : Program} {W : World} {base : Nat} {spare : Nat → Bool} {held : Bool} {t : TypeId} {d : Kd α} {wf : α → Prop} {a : Option Addr} {len cap : Nat} {D : DataW H} {ps : List MemPlace} {e' : Nat}
    (ho : Opens P t (Kd.slice e' d) (okL wf)) (h : DataW.Trod enc P W base spare held t (.slice a len cap) D ps) : ∃ l : List α, len = l.length ∧ Kd.C d W a l.length l ∧ l.length ≤ cap ∧ okL wf l := by
  obtain ⟨fuel, hf⟩ := h
  obtain ⟨l, ⟨A, c, hcs, hlc, hC⟩, hw⟩ := ho _ _ _ _ _ _ _ _ _ hf
  simp [Value.cells] at hcs
  obtain ⟨rfl, rfl, rfl⟩ := hcs
  exact ⟨l, rfl, hC, hlc, hw⟩
/-- An argument that is a struct. -/
theorem arg_struct {α : Type} {H : Type} {enc : TypeId × Value → H} {P : Program} {W : World} {base : Nat} {spare : Nat → Bool} {held : Bool} {t : TypeId} {d : Kd α} {wf : α → Prop} {cs : Array Value} {D : DataW H} {ps : List MemPlace}
    (ho : Opens P t d wf) (h : DataW.Trod enc P W base spare held t (.agg cs) D ps) : ∃ x : α, d.K W x cs.toList ∧ wf x := by
  obtain ⟨fuel, hf⟩ := h
  exact ho _ _ _ _ _ _ _ _ _ hf
end Go.Proofs.Ytlmabdiodopidaa.G
/-! ### small plain lemmas on numbers -/
namespace Go.Proofs.Ytlmabdiodopidaa.G
open Go.RowKit
theorem wrap64_of {x : Int} (h : okI x) : wrap64 x = x := by unfold okI at h; unfold wrap64; omega
theorem w64 {x : Int} (h1 : -9223372036854775808 ≤ x) (h2 : x < 9223372036854775808) : wrap64 x = x := by unfold wrap64; omega
theorem step1 {k n : Nat} (h : n + 1 ≤ k) : ∃ m, k = m + 1 ∧ n ≤ m := ⟨k - 1, by omega, by omega⟩
theorem okN_i64 {n : Int} : okN .i64 n ↔ okI n := by
  unfold okN okI Lit.wf
  simp [IntKind.min, IntKind.max, IntKind.signed, IntKind.bits]
  omega
end Go.Proofs.Ytlmabdiodopidaa.G
