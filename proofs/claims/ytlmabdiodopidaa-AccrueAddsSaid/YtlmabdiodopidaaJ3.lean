/- Texts of this seat, joined: Sq, Bits. Lemmas for the claim's theorem. -/
import Derived.Test.YtlmabdiodopidaaProg
import Derived.Tactics
import Derived.KernelRfl
import Derived.Below
import Derived.RowKit3
import Derived.WalkKit
import Derived.Deep.OwnRows
import Derived.Laws.Externs
import Derived.Test.YtlmabdiodopidaaJ2
section
set_option linter.unusedVariables false
set_option linter.unusedSimpArgs false
namespace Go.Proofs.Ytlmabdiodopidaa.G
open Go Go.RowKit Go.Proofs.YtlmabdiodopidaaW.PrintWords Go.Proofs.YtlmabdiodopidaaW.PrintLast
theorem pv {x : Option Obj} {cs cs' : Array Value} {t : TypeId} (h : x = some (.cells cs t)) (e : cs = cs') : x = some (.cells cs' t) := e ▸ h
theorem fput {w : World} {g : Nat} {t : TypeId} {cs : Array Value} (h : w.heap[g]? = some (.cells cs t)) (i : Nat) (u : Value) : (w.setCell ⟨g, i, none⟩ u).heap[g]? = some (.cells (cs.setIfInBounds i u) t) := blk_put h i u rfl
theorem ffar {w : World} {g : Nat} {t : TypeId} {cs : Array Value} {p : Addr} {u : Value} (hne : Aside0 (g ≠ p.block)) (h : w.heap[g]? = some (.cells cs t)) : (w.setCell p u).heap[g]? = some (.cells cs t) := blk_far h hne.out u
theorem bq {P Q : Prop} (k : Aside0 Q) (h : Q → P := by intro hz_; repeat (first | (with_reducible first | exact hz_ | refine blk_drewN ?_ _ | refine blk_drew ?_ | refine blk_alloc ?_ _) | refine blk_far ?_ (Aside0.out (by with_reducible assumption)) _ | exact hz_)) : P := h k.out
theorem hq {P Q : Prop} (k : Aside0 Q) (h : Q → P := by intro hz_; repeat (first | (with_reducible first | exact hz_ | apply below_alloc | apply pw_below_drewN | apply below_drew1 | refine below_set ?_ (Aside0.out (by assumption))) | exact hz_)) : P := h k.out
theorem kq {P Q : Prop} (k : Aside0 Q) (h : Q → P := by intro hz_; repeat (first | (with_reducible first | exact hz_ | apply Kd.R_alloc | apply Kd.R_drewN | apply Kd.R_drew) | exact hz_)) : P := h k.out
theorem zm {P : Prop} (h : P := by (try simp only [List.map_toArray, List.map_cons, List.map_nil]); first | done | rfl | (simp only [List.length_drop, List.length_take]; rfl)) : P := h
theorem bb {w w1 w2 : World} {g : Nat} {o : Obj} (k : Aside0 (w.heap[g]? = some o)) (hb : Below w1.heap.size w1 w2) (h : w.heap[g]? = some o → w1.heap[g]? = some o := by intro hz_; repeat (first | (with_reducible first | exact hz_ | refine blk_drewN ?_ _ | refine blk_drew ?_ | refine blk_alloc ?_ _) | refine blk_far ?_ (Aside0.out (by with_reducible assumption)) _ | exact hz_)) : Aside0 (w2.heap[g]? = some o) := .mk (blk_below (h k.out) hb)
theorem nl {w w1 : World} {g g' : Nat} {o : Obj} (k : Aside0 (w.heap[g]? = some o)) (hg : g' = w1.heap.size) (h : w.heap[g]? = some o → w1.heap[g]? = some o := by intro hz_; repeat (first | (with_reducible first | exact hz_ | refine blk_drewN ?_ _ | refine blk_drew ?_ | refine blk_alloc ?_ _) | refine blk_far ?_ (Aside0.out (by with_reducible assumption)) _ | exact hz_)) : Aside0 (g ≠ g') := .mk (by rw [hg]; exact Nat.ne_of_lt (blk_lt (h k.out)))
theorem ng {g g' : Nat} (k : Aside0 (g ≠ g')) : Aside0 (g' ≠ g) := .mk (Ne.symm k.out)
theorem bs {w w0 w1 w2 : World} (k : Aside0 (Below w.heap.size w w0)) (hb : Below w1.heap.size w1 w2) (h : Below w.heap.size w w0 → Below w.heap.size w w1 := by intro hz_; repeat (first | (with_reducible first | exact hz_ | apply below_alloc | apply pw_below_drewN | apply below_drew1 | refine below_set ?_ (Aside0.out (by assumption))) | exact hz_)) : Aside0 (Below w.heap.size w w2) := .mk (below_step (h k.out) hb)
theorem ge {w w0 w1 : World} {g : Nat} (k : Aside0 (Below w.heap.size w w0)) (hg : g = w1.heap.size) (h : Below w.heap.size w w0 → Below w.heap.size w w1 := by intro hz_; repeat (first | (with_reducible first | exact hz_ | apply below_alloc | apply pw_below_drewN | apply below_drew1 | refine below_set ?_ (Aside0.out (by assumption))) | exact hz_)) : Aside0 (w.heap.size ≤ g) := .mk (by rw [hg]; exact below_size (h k.out))
theorem bp {P Q : Prop} (k : Aside0 Q) (h : Q → P := by intro hz_; apply pv; (repeat (first | (with_reducible first | exact hz_ | refine blk_drewN ?_ _ | refine blk_drew ?_ | refine blk_alloc ?_ _ | apply fput) | (apply ffar; with_reducible assumption) | exact hz_)); rfl) : P := h k.out
theorem bpb {w w1 w2 : World} {g : Nat} {t : TypeId} {cs : Array Value} (k : Aside0 (w.heap[g]? = some (.cells cs t))) (hb : Below w1.heap.size w1 w2) (cs' : Array Value) (h : w.heap[g]? = some (.cells cs t) → w1.heap[g]? = some (.cells cs' t) := by intro hz_; apply pv; (repeat (first | (with_reducible first | exact hz_ | refine blk_drewN ?_ _ | refine blk_drew ?_ | refine blk_alloc ?_ _ | apply fput) | (apply ffar; with_reducible assumption) | exact hz_)); rfl) : Aside0 (w2.heap[g]? = some (.cells cs' t)) := .mk (blk_below (h k.out) hb)
theorem hb1 {w w0 : World} (k : Aside0 (Below w.heap.size w w0)) : Aside0 (Below w.heap.size w w0.drew) := .mk (below_drew1 k.out)
theorem bd1 {w : World} {g : Nat} {o : Obj} (k : Aside0 (w.heap[g]? = some o)) : Aside0 (w.drew.heap[g]? = some o) := .mk (blk_drew k.out)
theorem kb {α : Type} {d : Kd α} {e : Nat} {w w0 w1 : World} {base : Nat} {ok : Nat → Prop} {v : Value} {xs : List α} (k : Aside0 (Kd.R d e w base ok v xs)) (hb : Below w0.heap.size w0 w1) (h : Kd.R d e w base ok v xs → Kd.R d e w0 base ok v xs := by intro hz_; repeat (first | (with_reducible first | exact hz_ | apply Kd.R_alloc | apply Kd.R_drewN | apply Kd.R_drew) | exact hz_)) : Aside0 (Kd.R d e w1 base ok v xs) := .mk (Kd.R_below (h k.out) hb)
section
variable {P : Program} {ops : Array Oper} {Q : Exit → Act → World → Prop} {md : Region.Mode} {S : World → Prop} {ds : List Nat}
theorem pz {i : Nat} {N : Option Tmp} {oi : Oper} {v : Value} {fuel : Nat} {l : Array Bool} {a : Act} {w : World} (l' : Array Bool) (hi : ops[i]? = some oi) (hN : oi.dst = N) (hc : anyB md ops l l' i = true) (hQ : ∀ c a w, Q (.panic c) (a.put oi.dst v) w → Q (.panic c) a w) {a' : Act} (h : wpAnyLast P md ops Q S ds fuel l' a' w) (hy : Yields P ops oi v a := by refine Or.inl ⟨by rfl, ?_⟩; intro w'; go_simp; with_reducible rfl) (ha : a.put N v = a' := by simp only [Act.put, List.setIfInBounds_toArray, List.set_cons_zero, List.set_cons_succ, i64_w, i32_w]; rfl) : wpAnyLast P md ops Q S ds (fuel + 1) l a w := pure_ l' hi hN hc hQ hy ha h
theorem tz2 {i : Nat} {N : Option Tmp} {oi : Oper} {v : Value} {fuel : Nat} {l : Array Bool} {a : Act} {w : World} (l' : Array Bool) (hi : ops[i]? = some oi) (hN : oi.dst = N) (hc : takeB md ops ds l l' i = true) (hQ : ∀ c a w, Q (.panic c) (a.put oi.dst v) w → Q (.panic c) a w) (hS : S w) {a' : Act} (h : wpAnyLast P md ops Q S ds fuel l' a' w) (hy : YieldsIf P ops S oi v a := by refine Or.inl ⟨by rfl, ?_⟩; rintro w' ⟨s0, s1⟩; go_simp; with_reducible rfl) (ha : a.put N v = a' := by simp only [Act.put, List.setIfInBounds_toArray, List.set_cons_zero, List.set_cons_succ, i64_w, i32_w]; rfl) : wpAnyLast P md ops Q S ds (fuel + 1) l a w := take_ l' hi hN hc hQ hy hS ha h
theorem tz4 {i : Nat} {N : Option Tmp} {oi : Oper} {v : Value} {fuel : Nat} {l : Array Bool} {a : Act} {w : World} (l' : Array Bool) (hi : ops[i]? = some oi) (hN : oi.dst = N) (hc : takeB md ops ds l l' i = true) (hQ : ∀ c a w, Q (.panic c) (a.put oi.dst v) w → Q (.panic c) a w) (hS : S w) {a' : Act} (h : wpAnyLast P md ops Q S ds fuel l' a' w) (hy : YieldsIf P ops S oi v a := by refine Or.inl ⟨by rfl, ?_⟩; rintro w' ⟨s0, s1, s2, s3⟩; go_simp; with_reducible rfl) (ha : a.put N v = a' := by simp only [Act.put, List.setIfInBounds_toArray, List.set_cons_zero, List.set_cons_succ, i64_w, i32_w]; rfl) : wpAnyLast P md ops Q S ds (fuel + 1) l a w := take_ l' hi hN hc hQ hy hS ha h
end
theorem cz2 {w : World} {g : Nat} {t : TypeId} {a0 a1 : Value} (k : Aside0 (w.heap[g]? = some (.cells #[a0, a1] t))) : w.cell? ⟨g, 0, none⟩ = some a0 ∧ w.cell? ⟨g, 1, none⟩ = some a1 ∧ w.frozen? ⟨g, 0, none⟩ = false ∧ w.frozen? ⟨g, 1, none⟩ = false := ⟨(blk_cell k.out 0).trans rfl, (blk_cell k.out 1).trans rfl, blk_frozen k.out 0, blk_frozen k.out 1⟩
end Go.Proofs.Ytlmabdiodopidaa.G
end
section
set_option linter.unusedVariables false
set_option linter.unusedSimpArgs false
namespace Go.Proofs.Ytlmabdiodopidaa.G
/-- all bits turned -/
def not64 (x : Int) : Int := Go.bits .xor .u64 18446744073709551615 x
theorem un_not64 (n : Int) : Op.unary .xor (.int .u64 n) = pure (.int .u64 (not64 n)) := rfl
theorem un_noti (n : Int) : Op.unary .xor (.int .i64 n) = pure (.int .i64 (Go.bits .xor .i64 (-1) n)) := rfl
def add64s (x y : Int) : Int := (((x.toNat + y.toNat) % 18446744073709551616 : Nat) : Int)
def add64c (x y : Int) : Int := (((x.toNat + y.toNat) / 18446744073709551616 : Nat) : Int)
theorem run_add64 (x y : Int) (w : World) : (callFunc 66 #[.int .u64 x, .int .u64 y, .int .u64 0]).run Try.prog w = .ok (.value (.tuple #[.int .u64 (add64s x y), .int .u64 (add64c x y)])) w := by
  rw [run_callFunc_extern Try.func66 (by kernel_rfl) (by kernel_rfl) (by kernel_rfl) (e := add64Entry) (by kernel_rfl)]
  rfl
theorem add64s_eq {x y : Int} (hx : 0 ≤ x) (hy : 0 ≤ y) : add64s x y = (x + y) % 18446744073709551616 := by unfold add64s; omega
theorem add64c_eq {x y : Int} (hx : 0 ≤ x) (hy : 0 ≤ y) : add64c x y = (x + y) / 18446744073709551616 := by unfold add64c; omega
/-- an int of Go -/
def okI (n : Int) : Prop := -9223372036854775808 ≤ n ∧ n < 9223372036854775808
/-- a word -/
def okU (n : Int) : Prop := 0 ≤ n ∧ n < 18446744073709551616
/-- a pair of an int and a word -/
def okW (h l : Int) : Prop := okI h ∧ okU l
instance (n : Int) : Decidable (okI n) := by unfold okI; infer_instance
instance (n : Int) : Decidable (okU n) := by unfold okU; infer_instance
instance (h l : Int) : Decidable (okW h l) := by unfold okW; infer_instance
/-- the number of a pair -/
def val (h l : Int) : Int := h * 18446744073709551616 + l
/-- the pair of a number -/
def hi (s : Int) : Int := s / 18446744073709551616
def lo (s : Int) : Int := s % 18446744073709551616
/-- does a number fit -/
def fits (s : Int) : Prop := -170141183460469231731687303715884105728 ≤ s ∧ s < 170141183460469231731687303715884105728
instance (s : Int) : Decidable (fits s) := by unfold fits; infer_instance
/-- a sum's or product's pair and error -/
def out (s : Int) : Int × Int × Int := if fits s then (hi s, lo s, 0) else (0, 0, 6)
/-- the size of a number -/
def absI (n : Int) : Int := if n < 0 then -n else n

theorem val_hi_lo (s : Int) : val (hi s) (lo s) = s := by unfold val hi lo; omega
theorem okW_of_fits {s : Int} (h : fits s) : okW (hi s) (lo s) := by
  unfold fits at h; unfold okW okI okU hi lo; omega
theorem fits_mul {a b : Int} (ha : okI a) (hb : okI b) : fits (a * b) := by
  have key : ∀ x y : Int, 0 ≤ x → x ≤ 9223372036854775808 → 0 ≤ y → y ≤ 9223372036854775808 → 0 ≤ x * y ∧ x * y ≤ 85070591730234615865843651857942052864 := by
    intro x y x0 x1 y0 y1
    refine ⟨Int.mul_nonneg x0 y0, ?_⟩
    have := Int.mul_le_mul x1 y1 y0 (by omega)
    omega
  unfold okI at ha hb; unfold fits
  rcases Int.le_total 0 a with h1 | h1 <;> rcases Int.le_total 0 b with h2 | h2
  · have := key a b h1 (by omega) h2 (by omega); omega
  · have := key a (-b) h1 (by omega) (by omega) (by omega); rw [Int.mul_neg] at this; omega
  · have := key (-a) b (by omega) (by omega) h2 (by omega); rw [Int.neg_mul] at this; omega
  · have := key (-a) (-b) (by omega) (by omega) (by omega) (by omega); rw [Int.neg_mul_neg] at this; omega
theorem not64_eq {x : Int} (h : okU x) : not64 x = 18446744073709551615 - x := by
  obtain ⟨h0, h1⟩ := h
  obtain ⟨n, rfl⟩ := Int.eq_ofNat_of_zero_le h0
  have hn : n < 18446744073709551616 := by omega
  have e : (BitVec.ofInt 64 (18446744073709551615 : Int)) ^^^ (BitVec.ofInt 64 (n : Int)) = ~~~ (BitVec.ofNat 64 n) := by
    have e1 : BitVec.ofInt 64 (18446744073709551615 : Int) = BitVec.allOnes 64 := by decide
    rw [e1, BitVec.ofInt_natCast, BitVec.allOnes_xor]
  unfold not64 Go.bits
  show IntKind.u64.wrap ((BitVec.ofInt 64 (18446744073709551615 : Int) ^^^ BitVec.ofInt 64 (n : Int)).toNat : Int) = _
  rw [e, IntKind.wrap_u64, BitVec.toNat_not, BitVec.toNat_ofNat]
  omega
theorem noti_eq {x : Int} (h : okI x) : Go.bits .xor .i64 (-1) x = -1 - x := by
  obtain ⟨h0, h1⟩ := h
  have e : (BitVec.ofInt 64 (-1 : Int)) ^^^ (BitVec.ofInt 64 x) = ~~~ (BitVec.ofInt 64 x) := by
    have e1 : BitVec.ofInt 64 (-1 : Int) = BitVec.allOnes 64 := by decide
    rw [e1, BitVec.allOnes_xor]
  unfold Go.bits
  show IntKind.i64.wrap ((BitVec.ofInt 64 (-1 : Int) ^^^ BitVec.ofInt 64 x).toNat : Int) = _
  rw [e, IntKind.wrap_i64, BitVec.toNat_not, BitVec.toNat_ofInt]
  omega
end Go.Proofs.Ytlmabdiodopidaa.G
end
