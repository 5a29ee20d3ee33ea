/- Lemmas for the row of this claim: contracts of the functions that it reaches, and plain laws about numbers and lists. -/
import Derived.Test.YtogmjilaiopjmaaMore10
import Derived.ProofKit
import Derived.OpenShut
import Derived.ShutString
import Derived.ChangeOld
import Derived.SizedLaws
import Derived.Lib.SmallJoins
import Derived.Deep.Grids
import Derived.ChangeSlices
set_option linter.unusedVariables false
set_option linter.unusedSimpArgs false
section
namespace Go.Proofs.Ytogmjilaiopjmaa.P
open Go.Joins Go.ChangeShapes Go.WideShapes Go.RowKit Go.Deep Go.Proofs.YtogmjilaiopjmaaW.PrintWords Go.Proofs.YtogmjilaiopjmaaW.PrintLast Go.Proofs.YtogmjilaiopjmaaW.PrintMore
section
variable {H : Type} {enc : TypeId × Value → H} {P : Program} {w : World} {base : Nat} {spare : Nat → Bool} {held : Bool}
theorem open_agg5 {r : Reach} {b0 : Nat} {t : TypeId} {f0 f1 f2 f3 f4 : Field} {v : Value} {d : DataW H} {p : List MemPlace} (hs : P.underlying t = some (.struct #[f0, f1, f2, f3, f4])) (hone : oneCellFields P #[f0, f1, f2, f3, f4] = true) (hC : P.cellsOf t = 5)
  (hv : Value.okWide P w r b0 t v) (h : DataW.Trod enc P w base spare held t v d p) :
  ∃ (v0 v1 v2 v3 v4 : Value) (y0 y1 y2 y3 y4 : DataW H × List MemPlace) (n : Nat), v = .agg #[v0, v1, v2, v3, v4] ∧ d = .agg [y0.1, y1.1, y2.1, y3.1, y4.1] ∧ p = y0.2 ++ (y1.2 ++ (y2.2 ++ (y3.2 ++ y4.2))) ∧
   DataW.trod enc P w base spare held n f0.type [v0] = some y0 ∧ DataW.trod enc P w base spare held n f1.type [v1] = some y1 ∧ DataW.trod enc P w base spare held n f2.type [v2] = some y2 ∧ DataW.trod enc P w base spare held n f3.type [v3] = some y3 ∧ DataW.trod enc P w base spare held n f4.type [v4] = some y4 := by
 obtain ⟨cs, rfl, hsz⟩ := okWide_struct hs hv; obtain ⟨l⟩ := cs
 match l, hsz.trans hC with
 | [c0, c1, c2, c3, c4], _ =>
  obtain ⟨fuel, hf⟩ := h; obtain ⟨xs, n, _, hx, _, hlen, hg⟩ := DataW.trod_struct hs hf; obtain ⟨o0, k0⟩ := hone_of hone 0 f0 rfl; obtain ⟨o1, k1⟩ := hone_of hone 1 f1 rfl; obtain ⟨o2, k2⟩ := hone_of hone 2 f2 rfl; obtain ⟨o3, k3⟩ := hone_of hone 3 f3 rfl; obtain ⟨o4, k4⟩ := hone_of hone 4 f4 rfl
  match xs, hlen with
  | [y0, y1, y2, y3, y4], _ =>
   simp only [Prod.mk.injEq] at hx; exact ⟨c0, c1, c2, c3, c4, y0, y1, y2, y3, y4, n, rfl, by simpa using hx.1, by simpa using hx.2, by simpa [Value.cells, o0, k0] using hg 0 f0 rfl, by simpa [Value.cells, o1, k1] using hg 1 f1 rfl, by simpa [Value.cells, o2, k2] using hg 2 f2 rfl, by simpa [Value.cells, o3, k3] using hg 3 f3 rfl, by simpa [Value.cells, o4, k4] using hg 4 f4 rfl⟩
end
section
variable {H : Type} {enc : TypeId × Value → H} {W : World} {base : Nat} {held : Bool}
theorem ints_in {fuel : Nat} {cs : List Value} {y : DataW H × List MemPlace} (h : DataW.trod enc Try.prog W base (fun _ => true) held fuel 22 cs = some y) :
  ∃ (A : Option Addr) (c : Nat) (l : List Int), cs = [.slice A l.length c] ∧ ReadsInt W .i64 A l.length l ∧ l.length ≤ c ∧ l.length ≤ maxLen ∧ ∀ x ∈ l, (Lit.int .i64 x).wf = true := by
 rcases open_ints Try.underlying22 Try.underlying3 (by kernel_rfl) h with ⟨hcs, _⟩ | ⟨x, len, cap, zs, hcs, _, hl, hm, hz, _, hcell, hwz⟩
 ·exact ⟨none, 0, [], hcs, ⟨rfl, by simp, fun h => by simp at h⟩, Nat.le_refl _, by simp, by simp⟩
 ·obtain ⟨l, e, h1, h2, h3, h4⟩ := ReadsInt.ofRowC (k := .i64) (w := W) (a := some x) (len := len) (cap := cap) (zs := zs) (.inr ⟨x, rfl, hl, hm, by simpa using hz, hcell, hwz⟩); subst e; exact ⟨some x, cap, l, hcs, h1, h4, h2, h3⟩
theorem bools_in {fuel : Nat} {cs : List Value} {y : DataW H × List MemPlace} (h : DataW.trod enc Try.prog W base (fun _ => true) held fuel 25 cs = some y) :
  ∃ (A : Option Addr) (c : Nat) (l : List Bool), cs = [.slice A l.length c] ∧ ReadsOf Value.bool false W A l.length l ∧ l.length ≤ c ∧ l.length ≤ maxLen := by
 rcases open_bools Try.underlying25 Try.underlying4 (by kernel_rfl) h with ⟨hcs, _⟩ | ⟨x, len, cap, B, hcs, _, hl, hm, _, hcell⟩
 ·exact ⟨none, 0, [], hcs, ⟨rfl, by simp, fun h => by simp at h⟩, Nat.le_refl _, by simp⟩
 ·refine ⟨some x, cap, (List.range len).map B, by simpa using hcs, ⟨by simp, by unfold maxLen at hm; simp; omega, fun _ => ⟨x, rfl, fun j hj => ?_⟩⟩, by simpa using hl, by unfold maxLen at hm ⊢; simp; omega⟩
  simp at hj
  rw [hcell j (by omega), List.getD_eq_getElem?_getD, List.getElem?_map, List.getElem?_range hj]; rfl
theorem int_in {fuel : Nat} {cs : List Value} {y : DataW H × List MemPlace} (h : DataW.trod enc Try.prog W base (fun _ => true) held fuel 3 cs = some y) : ∃ n : Int, cs = [.int .i64 n] ∧ (Lit.int .i64 n).wf = true := by
 obtain ⟨n, h1, _, h3⟩ := DataW.trod_int Try.underlying3 h; exact ⟨n, h1, h3⟩
set_option maxRecDepth 100000 in
theorem floor_in {b0 : Nat} {v : Value} {d : DataW H} {p : List MemPlace} (hv : Value.okWide Try.prog W .any b0 24 v) (h : DataW.Trod enc Try.prog W base (fun _ => true) held 24 v d p) :
  ∃ (a b c : Int) (A3 : Option Addr) (c3 : Nat) (l3 : List Int) (A4 : Option Addr) (c4 : Nat) (l4 : List Int), v = .agg #[.int .i64 a, .int .i64 b, .int .i64 c, .slice A3 l3.length c3, .slice A4 l4.length c4] ∧
   (Lit.int .i64 a).wf = true ∧ (Lit.int .i64 b).wf = true ∧ (Lit.int .i64 c).wf = true ∧ ReadsInt W .i64 A3 l3.length l3 ∧ l3.length ≤ c3 ∧ ReadsInt W .i64 A4 l4.length l4 ∧ l4.length ≤ c4 ∧ (∀ x ∈ l3, (Lit.int .i64 x).wf = true) ∧ (∀ x ∈ l4, (Lit.int .i64 x).wf = true) := by
 obtain ⟨v0, v1, v2, v3, v4, y0, y1, y2, y3, y4, n, rfl, _, _, h0, h1, h2, h3, h4⟩ := open_agg5 Try.underlying24 (by kernel_rfl) (by kernel_rfl) hv h; obtain ⟨a, e0, w0⟩ := int_in h0; obtain ⟨b, e1, w1⟩ := int_in h1; obtain ⟨c, e2, w2⟩ := int_in h2; obtain ⟨A3, c3, l3, e3, r3, q3, _, x3⟩ := ints_in h3; obtain ⟨A4, c4, l4, e4, r4, q4, _, x4⟩ := ints_in h4; simp only [List.cons.injEq, and_true] at e0 e1 e2 e3 e4; subst e0 e1 e2 e3 e4; exact ⟨a, b, c, A3, c3, l3, A4, c4, l4, rfl, w0, w1, w2, r3, q3, r4, q4, x3, x4⟩
set_option maxRecDepth 100000 in
theorem layout_in {b0 : Nat} {v : Value} {d : DataW H} {p : List MemPlace} (hv : Value.okWide Try.prog W .any b0 27 v) (h : DataW.Trod enc Try.prog W base (fun _ => true) held 27 v d p) :
  ∃ (A : Option Addr) (c : Nat) (l : List Bool) (t : Int), v = .agg #[.slice A l.length c, .int .i64 t] ∧ ReadsOf Value.bool false W A l.length l ∧ l.length ≤ c ∧ (Lit.int .i64 t).wf = true := by
 obtain ⟨v0, v1, y0, y1, n, rfl, _, _, h0, h1⟩ := open_agg2 Try.underlying27 (by kernel_rfl) (by kernel_rfl) hv h; obtain ⟨A, c, l, e0, r, q, _⟩ := bools_in h0; obtain ⟨t, e1, w1⟩ := int_in h1; simp only [List.cons.injEq, and_true] at e0 e1; subst e0 e1; exact ⟨A, c, l, t, rfl, r, q, w1⟩
set_option maxRecDepth 100000 in
theorem list_in {b0 : Nat} {v : Value} {d : DataW H} {p : List MemPlace} (hv : Value.okWide Try.prog W .any b0 22 v) (h : DataW.Trod enc Try.prog W base (fun _ => true) held 22 v d p) :
  ∃ (A : Option Addr) (c : Nat) (l : List Int), v = .slice A l.length c ∧ ReadsInt W .i64 A l.length l ∧ l.length ≤ c ∧ l.length ≤ maxLen ∧ ∀ x ∈ l, (Lit.int .i64 x).wf = true := by
 obtain ⟨a, len, cap, rfl⟩ := okWide_slice Try.underlying22 hv; obtain ⟨fuel, hf⟩ := h; obtain ⟨A, c, l, e, r⟩ := ints_in hf
 simp [Value.cells] at e
 obtain ⟨rfl, rfl, rfl⟩ := e; exact ⟨a, cap, l, rfl, r⟩
end
end Go.Proofs.Ytogmjilaiopjmaa.P
end
