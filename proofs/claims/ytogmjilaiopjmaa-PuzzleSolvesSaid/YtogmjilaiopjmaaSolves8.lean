/- Lemmas for the row of this claim: contracts of the functions that it reaches, and plain laws about numbers and lists. -/
import Derived.Test.YtogmjilaiopjmaaSolves7
import Derived.WalkSpells
section
set_option linter.unusedVariables false
set_option linter.unusedSimpArgs false
namespace Go.Proofs.Ytogmjilaiopjmaa.P
open Go.RowKit Go.Proofs.YtogmjilaiopjmaaW.PrintWords Go.Proofs.YtogmjilaiopjmaaW.PrintLast Go.Proofs.YtogmjilaiopjmaaW.PrintMore
set_option linter.unusedVariables false
set_option linter.unusedSimpArgs false
def slices_Clone_bool_bool.f (l : List Bool) : Option (List Bool) := if l.length ≤ 1000000 then some l else none
theorem none_empty {α : Type} {d : Kd α} {w : World} {n : Nat} {l : List α} (h : Kd.C d w none n l) : n = 0 := by
 rcases Nat.eq_zero_or_pos n with h0 | h0
 ·exact h0
 ·obtain ⟨ad, e, _⟩ := h.2.2 h0
  cases e
set_option maxHeartbeats 1000000 in
set_option maxRecDepth 100000 in
theorem slices_Clone_bool_bool.calls (A0 : Option Addr) (c0 : Nat) (l0 : List Bool) (r : List Bool) (w : World) (hr0 : Kd.C Kd.bool w A0 l0.length l0) (hc0 : l0.length ≤ c0) (h : slices_Clone_bool_bool.f l0 = some r) :
  Calls Try.prog 66 #[.slice A0 l0.length c0] w fun e w' => ∃ v0_ : Value, e = .returned (v0_) ∧ Kd.R Kd.bool 4 w' w.heap.size (fun _ => True) v0_ r ∧ Below w.heap.size w w' := by
 unfold slices_Clone_bool_bool.f at h
 have hl : l0.length ≤ 1000000 := by
  by_cases e : l0.length ≤ 1000000
  ·exact e
  ·rw [if_neg e] at h; cases h
 rw [if_pos hl] at h
 obtain rfl := Option.some.inj h
 clear h
 have heq := fun (W : World) => Lib.run_eql_slice_nil (P := Try.prog) W 25 4 A0 l0.length c0 0 0 Try.underlying25
 cases A0 with
 | none =>
  have HL0 := Aside0.mk (none_empty hr0)
  have HL := Aside0.mk (List.eq_nil_of_length_eq_zero HL0.out)
  clear hr0 hc0 hl
  go_enter Try.func66, Try.ntmps66
  go_wp2
  go_ret
  exact ⟨_, rfl, by rw [HL.out]; exact Kd.R_nil _ _ _ _ _, Below.refl _ _⟩
 | some ad =>
  have HR0 := Aside0.mk hr0
  have HC0 := Aside0.mk hc0
  have HL := Aside0.mk hl
  clear hr0 hc0 hl
  go_enter Try.func66, Try.ntmps66
  go_wp2_with (first | ((with_reducible refine gate_dst (N := 5) rfl ?_); refine Kd.R_lit Kd.bool (w0 := w) w.heap.size 4 ?hg (N := 5) ?hd (xs := ([] : List Bool)) (inner := []) (ok := fun _ => True) (okp := fun _ => True) ?hr ?hp (fun _ hk => hk) trivial (Below.refl _ _) (Nat.le_refl _) (by simp) ?_; (case hd => rfl); (case hg => rfl); (case hr => first | (go_simp; done) | (go_simp; rfl)); (case hp => exact (Reps.none _ _)); intro v5 w5 ho hb hg hat; have HO := Aside0.mk ho; have HB := Aside0.mk hb; clear ho hb hg hat) | (at_builtin; refine Kd.R_append_row Value.bool false (h1 := fun _ => rfl) (w0 := w) w.heap.size rfl _ _ 25 4 (.bool false) 1 rfl Try.underlying25 info4 rfl (by decide) v5 [] l0 (some ad) l0.length c0 (fun _ => True) rfl rfl (fun _ _ => trivial) HO.out (Kd.C_below HR0.out HB.out) HB.out HB.out.size (by have := HL.out; simp; omega) ?_; intro v7 w7 ho hb hg hat; have HO7 := Aside0.mk ho; have HB7 := Aside0.mk hb; clear ho hb hg hat))
  go_ret
  exact ⟨_, rfl, HO7.out, HB7.out⟩
end Go.Proofs.Ytogmjilaiopjmaa.P
end
section
set_option linter.unusedVariables false
set_option linter.unusedSimpArgs false
namespace Go.Proofs.Ytogmjilaiopjmaa.P
open Go.RowKit Go.Proofs.YtogmjilaiopjmaaW.PrintWords Go.Proofs.YtogmjilaiopjmaaW.PrintLast Go.Proofs.YtogmjilaiopjmaaW.PrintMore
set_option linter.unusedVariables false
set_option linter.unusedSimpArgs false
set_option maxHeartbeats 2000000 in
set_option maxRecDepth 100000 in
theorem do_range (A : Option Addr) (c : Nat) (l : List Bool) (t p q : Int) (w : World) (hl : l.length ≤ 1000000) (h : p < 0 ∨ (l.length : Int) ≤ p ∨ q < 0 ∨ (l.length : Int) ≤ q) :
  Calls Try.prog 30 #[.agg #[.slice A l.length c, .int .i64 t], .agg #[.int .i64 p, .int .i64 q]] w fun e w' => ∃ v0_ : Value, e = .returned (.tuple #[.agg #[v0_, .int .i64 0], .int .i64 3]) ∧ Kd.R Kd.bool 4 w' w.heap.size (fun _ => True) v0_ [] ∧ Below w.heap.size w w' := by
 have hu27 := Try.underlying27
 have hu51 := Try.underlying51
 have HB := Aside0.mk (Below.refl w.heap.size w)
 have HH := Aside0.mk h
 have HLL := Aside0.mk hl
 clear h hl
 go_enter Try.func30, Try.ntmps30
 go_upto_region 1 with (first | ((with_reducible refine gate_dst (N := 2) rfl ?_); refine box_event ?hg (N := 2) ?hd (cs := #[.slice A l.length c, .int .i64 t]) (t := 27) ?hr ?_; (case hd => rfl); (case hg => rfl); (case hr => first | (go_simp; done) | (go_simp; rfl)); intro g2 hg w2 hbox hb; have GE2 := Aside0.mk (show w.heap.size ≤ g2 by have := HB.out.size; omega); have n_HB := Aside0.mk (below_step HB.out hb); clear HB; have HB := n_HB; clear n_HB; have BK2 := Aside0.mk hbox; clear hbox hb hg) | ((with_reducible refine gate_dst (N := 3) rfl ?_); refine box_event ?hg (N := 3) ?hd (cs := #[.int .i64 p, .int .i64 q]) (t := 51) ?hr ?_; (case hd => rfl); (case hg => rfl); (case hr => first | (go_simp; done) | (go_simp; rfl)); intro g3 hg w3 hbox hb; have GE3 := Aside0.mk (show w.heap.size ≤ g3 by have := HB.out.size; omega); have NE3_2 := Aside0.mk (show g3 ≠ g2 by have := blk_lt BK2.out; omega); have n_BK2 := Aside0.mk (blk_below BK2.out hb); have n_HB := Aside0.mk (below_step HB.out hb); clear BK2; clear HB; have BK2 := n_BK2; have HB := n_HB; clear n_BK2 n_HB; have BK3 := Aside0.mk hbox; clear hbox hb hg) | ((with_reducible refine gate_dst (N := 4) rfl ?_); refine box_event ?hg (N := 4) ?hd (cs := #[.slice none 0 0, .int .i64 0]) (t := 27) ?hr ?_; (case hd => rfl); (case hg => rfl); (case hr => first | (go_simp; done) | (go_simp; rfl)); intro g4 hg w4 hbox hb; have GE4 := Aside0.mk (show w.heap.size ≤ g4 by have := HB.out.size; omega); have NE4_2 := Aside0.mk (show g4 ≠ g2 by have := blk_lt BK2.out; omega); have NE4_3 := Aside0.mk (show g4 ≠ g3 by have := blk_lt BK3.out; omega); have n_BK2 := Aside0.mk (blk_below BK2.out hb); have n_BK3 := Aside0.mk (blk_below BK3.out hb); have n_HB := Aside0.mk (below_step HB.out hb); clear BK2; clear BK3; clear HB; have BK2 := n_BK2; have BK3 := n_BK3; have HB := n_HB; clear n_BK2 n_BK3 n_HB; have BK4 := Aside0.mk hbox; clear hbox hb hg))
 have e20 := blk_cell BK2.out 0
 have e21 := blk_cell BK2.out 1
 have f20 := blk_frozen BK2.out 0
 have f21 := blk_frozen BK2.out 1
 have e30 := blk_cell BK3.out 0
 have e31 := blk_cell BK3.out 1
 have e40 := blk_cell BK4.out 0
 have e41 := blk_cell BK4.out 1
 have f40 := blk_frozen BK4.out 0
 have f41 := blk_frozen BK4.out 1
 try simp at e20 e21 e30 e31 e40 e41
 by_cases h1 : p < 0
 ·have x1 : decide (p < 0) = true := decide_eq_true h1
  clear h1
  go_wp2
  refine bodyPost_ret (results_ct rfl _ _ g4 27 #[.slice none 0 0, .int .i64 0] (0, 0) _ rfl (by refine blk_put (cs := #[.slice none 0 0, .int .i64 0]) ?_ 1 _ rfl; refine blk_put (cs := #[.slice none 0 0, .int .i64 0]) ?_ 0 _ rfl; exact BK4.out) Try.underlying27 rfl (by kernel_rfl)) rfl ?_
  exact ⟨_, rfl, Kd.R_nil _ _ _ _ _, below_set (below_set HB.out GE4.out) GE4.out⟩
 have x1 : decide (p < 0) = false := decide_eq_false h1
 by_cases h2 : (l.length : Int) ≤ p
 ·have x2 : decide (p ≥ (l.length : Int)) = true := decide_eq_true h2
  clear h1 h2
  go_wp2
  refine bodyPost_ret (results_ct rfl _ _ g4 27 #[.slice none 0 0, .int .i64 0] (0, 0) _ rfl (by refine blk_put (cs := #[.slice none 0 0, .int .i64 0]) ?_ 1 _ rfl; refine blk_put (cs := #[.slice none 0 0, .int .i64 0]) ?_ 0 _ rfl; exact BK4.out) Try.underlying27 rfl (by kernel_rfl)) rfl ?_
  exact ⟨_, rfl, Kd.R_nil _ _ _ _ _, below_set (below_set HB.out GE4.out) GE4.out⟩
 have x2 : decide (p ≥ (l.length : Int)) = false := decide_eq_false h2
 by_cases h3 : q < 0
 ·have x3 : decide (q < 0) = true := decide_eq_true h3
  clear h1 h2 h3
  go_wp2
  refine bodyPost_ret (results_ct rfl _ _ g4 27 #[.slice none 0 0, .int .i64 0] (0, 0) _ rfl (by refine blk_put (cs := #[.slice none 0 0, .int .i64 0]) ?_ 1 _ rfl; refine blk_put (cs := #[.slice none 0 0, .int .i64 0]) ?_ 0 _ rfl; exact BK4.out) Try.underlying27 rfl (by kernel_rfl)) rfl ?_
  exact ⟨_, rfl, Kd.R_nil _ _ _ _ _, below_set (below_set HB.out GE4.out) GE4.out⟩
 have x3 : decide (q < 0) = false := decide_eq_false h3
 have x4 : decide (q ≥ (l.length : Int)) = true := decide_eq_true (by have := HH.out; omega)
 clear h1 h2 h3
 go_wp2
 refine bodyPost_ret (results_ct rfl _ _ g4 27 #[.slice none 0 0, .int .i64 0] (0, 0) _ rfl (by refine blk_put (cs := #[.slice none 0 0, .int .i64 0]) ?_ 1 _ rfl; refine blk_put (cs := #[.slice none 0 0, .int .i64 0]) ?_ 0 _ rfl; exact BK4.out) Try.underlying27 rfl (by kernel_rfl)) rfl ?_
 exact ⟨_, rfl, Kd.R_nil _ _ _ _ _, below_set (below_set HB.out GE4.out) GE4.out⟩
set_option maxHeartbeats 2000000 in
set_option maxRecDepth 100000 in
theorem do_place (A : Option Addr) (c : Nat) (l : List Bool) (t : Int) (p q : Nat) (w : World) (hl : l.length ≤ 1000000) (hp : p < l.length) (hq : q < l.length) (hc : l.length ≤ c) (hr : Kd.C Kd.bool w A l.length l) (h : l.getD p false = false ∨ l.getD q false = true) :
  Calls Try.prog 30 #[.agg #[.slice A l.length c, .int .i64 t], .agg #[.int .i64 (p : Int), .int .i64 (q : Int)]] w fun e w' => ∃ v0_ : Value, e = .returned (.tuple #[.agg #[v0_, .int .i64 0], .int .i64 13]) ∧ Kd.R Kd.bool 4 w' w.heap.size (fun _ => True) v0_ [] ∧ Below w.heap.size w w' := by
 have hu27 := Try.underlying27
 have hu51 := Try.underlying51
 have HB := Aside0.mk (Below.refl w.heap.size w)
 have HLL := Aside0.mk hl
 have HP := Aside0.mk hp
 have HQ := Aside0.mk hq
 have HC := Aside0.mk hc
 have HR := Aside0.mk hr
 obtain ⟨ad, rfl, hcell⟩ := bool_cells HR.out (by omega)
 have HCELL := Aside0.mk hcell
 have y1 : (p : Int) < (l.length : Int) := by omega
 have y2 : (q : Int) < (l.length : Int) := by omega
 have x1 : decide ((p : Int) < 0) = false := decide_eq_false (by omega)
 have x2 : decide ((p : Int) ≥ (l.length : Int)) = false := decide_eq_false (by omega)
 have x2n : decide (l.length ≤ p) = false := decide_eq_false (by omega)
 have x3 : decide ((q : Int) < 0) = false := decide_eq_false (by omega)
 have x4 : decide ((q : Int) ≥ (l.length : Int)) = false := decide_eq_false (by omega)
 have x4n : decide (l.length ≤ q) = false := decide_eq_false (by omega)
 clear hl hp hq hc hr hcell
 have HH := Aside0.mk h
 clear h
 go_enter Try.func30, Try.ntmps30
 go_upto_region 1 with (first | ((with_reducible refine gate_dst (N := 2) rfl ?_); refine box_event ?hg (N := 2) ?hd (cs := #[.slice (some ad) l.length c, .int .i64 t]) (t := 27) ?hr ?_; (case hd => rfl); (case hg => rfl); (case hr => first | (go_simp; done) | (go_simp; rfl)); intro g2 hg w2 hbox hb; have GE2 := Aside0.mk (show w.heap.size ≤ g2 by have := HB.out.size; omega); have n_HB := Aside0.mk (below_step HB.out hb); clear HB; have HB := n_HB; clear n_HB; have BK2 := Aside0.mk hbox; clear hbox hb hg) | ((with_reducible refine gate_dst (N := 3) rfl ?_); refine box_event ?hg (N := 3) ?hd (cs := #[.int .i64 (p : Int), .int .i64 (q : Int)]) (t := 51) ?hr ?_; (case hd => rfl); (case hg => rfl); (case hr => first | (go_simp; done) | (go_simp; rfl)); intro g3 hg w3 hbox hb; have GE3 := Aside0.mk (show w.heap.size ≤ g3 by have := HB.out.size; omega); have NE3_2 := Aside0.mk (show g3 ≠ g2 by have := blk_lt BK2.out; omega); have n_BK2 := Aside0.mk (blk_below BK2.out hb); have n_HB := Aside0.mk (below_step HB.out hb); clear BK2; clear HB; have BK2 := n_BK2; have HB := n_HB; clear n_BK2 n_HB; have BK3 := Aside0.mk hbox; clear hbox hb hg) | ((with_reducible refine gate_dst (N := 4) rfl ?_); refine box_event ?hg (N := 4) ?hd (cs := #[.slice none 0 0, .int .i64 0]) (t := 27) ?hr ?_; (case hd => rfl); (case hg => rfl); (case hr => first | (go_simp; done) | (go_simp; rfl)); intro g4 hg w4 hbox hb; have GE4 := Aside0.mk (show w.heap.size ≤ g4 by have := HB.out.size; omega); have NE4_2 := Aside0.mk (show g4 ≠ g2 by have := blk_lt BK2.out; omega); have NE4_3 := Aside0.mk (show g4 ≠ g3 by have := blk_lt BK3.out; omega); have n_BK2 := Aside0.mk (blk_below BK2.out hb); have n_BK3 := Aside0.mk (blk_below BK3.out hb); have n_HB := Aside0.mk (below_step HB.out hb); clear BK2; clear BK3; clear HB; have BK2 := n_BK2; have BK3 := n_BK3; have HB := n_HB; clear n_BK2 n_BK3 n_HB; have BK4 := Aside0.mk hbox; clear hbox hb hg))
 have e20 := blk_cell BK2.out 0
 have e21 := blk_cell BK2.out 1
 have f20 := blk_frozen BK2.out 0
 have f21 := blk_frozen BK2.out 1
 have e30 := blk_cell BK3.out 0
 have e31 := blk_cell BK3.out 1
 have e40 := blk_cell BK4.out 0
 have e41 := blk_cell BK4.out 1
 have f40 := blk_frozen BK4.out 0
 have f41 := blk_frozen BK4.out 1
 try simp at e20 e21 e30 e31 e40 e41
 have cp := (HB.out.cell (World.block_lt_of_cell? w _ (HCELL.out p HP.out))).trans (HCELL.out p HP.out)
 have cq := (HB.out.cell (World.block_lt_of_cell? w _ (HCELL.out q HQ.out))).trans (HCELL.out q HQ.out)
 cases hpv : l.getD p false with
 | false =>
  rw [hpv] at cp
  clear hpv
  go_wp2
  refine bodyPost_ret (results_ct rfl _ _ g4 27 #[.slice none 0 0, .int .i64 0] (0, 0) _ rfl (by refine blk_put (cs := #[.slice none 0 0, .int .i64 0]) ?_ 1 _ rfl; refine blk_put (cs := #[.slice none 0 0, .int .i64 0]) ?_ 0 _ rfl; exact BK4.out) Try.underlying27 rfl (by kernel_rfl)) rfl ?_
  exact ⟨_, rfl, Kd.R_nil _ _ _ _ _, below_set (below_set HB.out GE4.out) GE4.out⟩
 | true =>
  rw [hpv] at cp
  have hqv : l.getD q false = true := by
   rcases HH.out with e | e
   ·rw [hpv] at e; cases e
   ·exact e
  rw [hqv] at cq
  clear hpv hqv
  go_wp2
  refine bodyPost_ret (results_ct rfl _ _ g4 27 #[.slice none 0 0, .int .i64 0] (0, 0) _ rfl (by refine blk_put (cs := #[.slice none 0 0, .int .i64 0]) ?_ 1 _ rfl; refine blk_put (cs := #[.slice none 0 0, .int .i64 0]) ?_ 0 _ rfl; exact BK4.out) Try.underlying27 rfl (by kernel_rfl)) rfl ?_
  exact ⟨_, rfl, Kd.R_nil _ _ _ _ _, below_set (below_set HB.out GE4.out) GE4.out⟩
set_option maxHeartbeats 4000000 in
set_option maxRecDepth 100000 in
theorem do_ok (A : Option Addr) (c : Nat) (l : List Bool) (t : Int) (p q : Nat) (w : World) (hl : l.length ≤ 1000000) (hp : p < l.length) (hq : q < l.length) (hc : l.length ≤ c) (hr : Kd.C Kd.bool w A l.length l) (t2 : Int) (h3 : t2 = if t = (p : Int) then (q : Int) else t) (h1 : l.getD p false = true) (h2 : l.getD q false = false) :
  Calls Try.prog 30 #[.agg #[.slice A l.length c, .int .i64 t], .agg #[.int .i64 (p : Int), .int .i64 (q : Int)]] w fun e w' => ∃ v0_ : Value, e = .returned (.tuple #[.agg #[v0_, .int .i64 t2], .int .i64 0]) ∧ Kd.R Kd.bool 4 w' w.heap.size (fun _ => True) v0_ ((l.set p false).set q true) ∧ Below w.heap.size w w' := by
 have hu27 := Try.underlying27
 have hu51 := Try.underlying51
 have HB := Aside0.mk (Below.refl w.heap.size w)
 have HLL := Aside0.mk hl
 have HP := Aside0.mk hp
 have HQ := Aside0.mk hq
 have HC := Aside0.mk hc
 have HR := Aside0.mk hr
 obtain ⟨ad, rfl, hcell⟩ := bool_cells HR.out (by omega)
 have HCELL := Aside0.mk hcell
 have y1 : (p : Int) < (l.length : Int) := by omega
 have y2 : (q : Int) < (l.length : Int) := by omega
 have x1 : decide ((p : Int) < 0) = false := decide_eq_false (by omega)
 have x2 : decide ((p : Int) ≥ (l.length : Int)) = false := decide_eq_false (by omega)
 have x2n : decide (l.length ≤ p) = false := decide_eq_false (by omega)
 have x3 : decide ((q : Int) < 0) = false := decide_eq_false (by omega)
 have x4 : decide ((q : Int) ≥ (l.length : Int)) = false := decide_eq_false (by omega)
 have x4n : decide (l.length ≤ q) = false := decide_eq_false (by omega)
 clear hl hp hq hc hr hcell
 have H3 := Aside0.mk h3
 clear h3
 have hne : p ≠ q := fun e => by rw [e, h2] at h1; cases h1
 have HNE := Aside0.mk hne
 have HF := Aside0.mk (show slices_Clone_bool_bool.f l = some l by unfold slices_Clone_bool_bool.f; rw [if_pos HLL.out])
 clear hne
 go_enter Try.func30, Try.ntmps30
 go_upto_region 1 with (first | ((with_reducible refine gate_dst (N := 2) rfl ?_); refine box_event ?hg (N := 2) ?hd (cs := #[.slice (some ad) l.length c, .int .i64 t]) (t := 27) ?hr ?_; (case hd => rfl); (case hg => rfl); (case hr => first | (go_simp; done) | (go_simp; rfl)); intro g2 hg w2 hbox hb; have GE2 := Aside0.mk (show w.heap.size ≤ g2 by have := HB.out.size; omega); have n_HB := Aside0.mk (below_step HB.out hb); clear HB; have HB := n_HB; clear n_HB; have BK2 := Aside0.mk hbox; clear hbox hb hg) | ((with_reducible refine gate_dst (N := 3) rfl ?_); refine box_event ?hg (N := 3) ?hd (cs := #[.int .i64 (p : Int), .int .i64 (q : Int)]) (t := 51) ?hr ?_; (case hd => rfl); (case hg => rfl); (case hr => first | (go_simp; done) | (go_simp; rfl)); intro g3 hg w3 hbox hb; have GE3 := Aside0.mk (show w.heap.size ≤ g3 by have := HB.out.size; omega); have NE3_2 := Aside0.mk (show g3 ≠ g2 by have := blk_lt BK2.out; omega); have n_BK2 := Aside0.mk (blk_below BK2.out hb); have n_HB := Aside0.mk (below_step HB.out hb); clear BK2; clear HB; have BK2 := n_BK2; have HB := n_HB; clear n_BK2 n_HB; have BK3 := Aside0.mk hbox; clear hbox hb hg) | ((with_reducible refine gate_dst (N := 4) rfl ?_); refine box_event ?hg (N := 4) ?hd (cs := #[.slice none 0 0, .int .i64 0]) (t := 27) ?hr ?_; (case hd => rfl); (case hg => rfl); (case hr => first | (go_simp; done) | (go_simp; rfl)); intro g4 hg w4 hbox hb; have GE4 := Aside0.mk (show w.heap.size ≤ g4 by have := HB.out.size; omega); have NE4_2 := Aside0.mk (show g4 ≠ g2 by have := blk_lt BK2.out; omega); have NE4_3 := Aside0.mk (show g4 ≠ g3 by have := blk_lt BK3.out; omega); have n_BK2 := Aside0.mk (blk_below BK2.out hb); have n_BK3 := Aside0.mk (blk_below BK3.out hb); have n_HB := Aside0.mk (below_step HB.out hb); clear BK2; clear BK3; clear HB; have BK2 := n_BK2; have BK3 := n_BK3; have HB := n_HB; clear n_BK2 n_BK3 n_HB; have BK4 := Aside0.mk hbox; clear hbox hb hg))
 have e20 := blk_cell BK2.out 0
 have e21 := blk_cell BK2.out 1
 have f20 := blk_frozen BK2.out 0
 have f21 := blk_frozen BK2.out 1
 have e30 := blk_cell BK3.out 0
 have e31 := blk_cell BK3.out 1
 have e40 := blk_cell BK4.out 0
 have e41 := blk_cell BK4.out 1
 have f40 := blk_frozen BK4.out 0
 have f41 := blk_frozen BK4.out 1
 try simp at e20 e21 e30 e31 e40 e41
 have cp := (HB.out.cell (World.block_lt_of_cell? w _ (HCELL.out p HP.out))).trans (HCELL.out p HP.out)
 have cq := (HB.out.cell (World.block_lt_of_cell? w _ (HCELL.out q HQ.out))).trans (HCELL.out q HQ.out)
 rw [h1] at cp
 rw [h2] at cq
 go_upto_region 7 with ((go_at_call 66; refine (slices_Clone_bool_bool.calls _ _ l _ _ (Kd.C_below HR.out HB.out) HC.out HF.out).mono ?_; rintro e w66_ ⟨v5, rfl, ho, hb⟩; have HB0 := Aside0.mk (below_size HB.out); have n_BK2 := Aside0.mk (blk_below BK2.out hb); have n_BK3 := Aside0.mk (blk_below BK3.out hb); have n_BK4 := Aside0.mk (blk_below BK4.out hb); have n_HB := Aside0.mk (below_step HB.out hb); clear BK2; clear BK3; clear BK4; clear HB; have BK2 := n_BK2; have BK3 := n_BK3; have BK4 := n_BK4; have HB := n_HB; clear n_BK2 n_BK3 n_BK4 n_HB; obtain ⟨g5, cap5, rfl, hg5⟩ := R_form ho (by have := HP.out; omega); have HO := Aside0.mk ho; have HG5 := Aside0.mk hg5; clear ho hg5; clear e20 e21 f20 f21 e30 e31 e40 e41 f40 f41 cp cq; have f20 := blk_frozen BK2.out 0; have e20 := blk_cell BK2.out 0; clear hb))
 have HO1 := Aside0.mk (Kd.R_set (Kd.R_lower HO.out HB0.out) BK2.out (by decide) 0 (.slice (some ⟨g5, 0, none⟩) l.length cap5))
 have N52 := Aside0.mk (show g5 ≠ g2 from fun e => Kd.R_ne HO.out BK2.out (by decide) (by simp [Value.ownBlock, e]))
 have N53 := Aside0.mk (show g5 ≠ g3 from fun e => Kd.R_ne HO.out BK3.out (by decide) (by simp [Value.ownBlock, e]))
 have N54 := Aside0.mk (show g5 ≠ g4 from fun e => Kd.R_ne HO.out BK4.out (by decide) (by simp [Value.ownBlock, e]))
 have n_BK3 := Aside0.mk (blk_far (p := ⟨g2, 0, none⟩) BK3.out NE3_2.out (.slice (some ⟨g5, 0, none⟩) l.length cap5))
 have n_BK4 := Aside0.mk (blk_far (p := ⟨g2, 0, none⟩) BK4.out NE4_2.out (.slice (some ⟨g5, 0, none⟩) l.length cap5))
 have n_BK2 := Aside0.mk (blk_put (cs := #[.slice (some ad) l.length c, .int .i64 t]) BK2.out 0 (.slice (some ⟨g5, 0, none⟩) l.length cap5) rfl)
 have n_HB := Aside0.mk (below_set (j := 0) (v := .slice (some ⟨g5, 0, none⟩) l.length cap5) HB.out GE2.out)
 have HBX := HB0
 clear e20 f20 HO BK2 BK3 BK4 HB HB0
 have BK2 := n_BK2
 have BK3 := n_BK3
 have BK4 := n_BK4
 have HB := n_HB
 clear n_BK2 n_BK3 n_BK4 n_HB
 generalize w66_.setCell ⟨g2, 0, none⟩ (.slice (some ⟨g5, 0, none⟩) l.length cap5) = W at HO1 BK2 BK3 BK4 HB ⊢
 have e20 := blk_cell BK2.out 0
 have e30 := blk_cell BK3.out 0
 have e31 := blk_cell BK3.out 1
 try simp at e20 e30 e31
 obtain ⟨cp, fp⟩ := Kd.R_cell false HO1.out (p : Int) (by omega) (by omega)
 obtain ⟨cq, fq⟩ := Kd.R_cell false HO1.out (q : Int) (by omega) (by omega)
 rw [Int.toNat_natCast] at cp fp cq fq
 have kpq := fun (v : Value) => (cell_off_ne W g5 p q v (Ne.symm HNE.out)).trans cq
 have kqp := fun (v : Value) => (cell_off_ne W g5 q p v HNE.out).trans cp
 have HG6 := Aside0.mk (show w.heap.size ≤ g5 from Nat.le_trans HBX.out HG5.out)
 have n52 := N52.out
 have n53 := N53.out
 go_cut [] (fun wc => Aside0 (Kd.R Kd.bool 4 wc w.heap.size (fun _ => True) (.slice (some ⟨g5, 0, none⟩) l.length cap5) ((l.set p false).set q true)) ∧ Aside0 (wc.heap[g2]? = some (.cells #[.slice (some ⟨g5, 0, none⟩) l.length cap5, .int .i64 t] 27 (0, 0))) ∧ Aside0 (wc.heap[g3]? = some (.cells #[.int .i64 (p : Int), .int .i64 (q : Int)] 51 (0, 0))) ∧ Aside0 (wc.heap[g4]? = some (.cells #[.slice none 0 0, .int .i64 0] 27 (0, 0))) ∧ Aside0 (Below w.heap.size w wc))
 case first =>
  go_region_held3 (fun w' => w'.cell? ⟨g2, 0, none⟩ = some (.slice (some ⟨g5, 0, none⟩) l.length cap5) ∧ w'.cell? ⟨g3, 0, none⟩ = some (.int .i64 (p : Int)) ∧ w'.cell? ⟨g3, 1, none⟩ = some (.int .i64 (q : Int))) (go_keep) (fail)
  all_goals go_wp2
  go_meet
  case rel =>
   have h1 := Kd.R_putn HO1.out (p : Int) false
   have h2 := Kd.R_putn h1 (q : Int) true
   rw [Int.toNat_natCast, Int.toNat_natCast] at h2
   exact ⟨⟨h2⟩, ⟨blk_far (p := ⟨g5, q, none⟩) (blk_far (p := ⟨g5, p, none⟩) BK2.out (Ne.symm n52) _) (Ne.symm n52) _⟩, ⟨blk_far (p := ⟨g5, q, none⟩) (blk_far (p := ⟨g5, p, none⟩) BK3.out (Ne.symm n53) _) (Ne.symm n53) _⟩, ⟨blk_far (p := ⟨g5, q, none⟩) (blk_far (p := ⟨g5, p, none⟩) BK4.out (Ne.symm N54.out) _) (Ne.symm N54.out) _⟩, ⟨below_drew1 (below_set (below_set HB.out HG6.out) HG6.out)⟩⟩
 case rest =>
  clear e20 e30 e31 cp fp cq fq kpq kqp n52 n53 HO1 BK2 BK3 BK4 HB
  obtain ⟨HO1, BK2, BK3, BK4, HB⟩ := hcut
  have e20 := blk_cell BK2.out 0
  have e21 := blk_cell BK2.out 1
  have f21 := blk_frozen BK2.out 1
  have e30 := blk_cell BK3.out 0
  have e31 := blk_cell BK3.out 1
  have e40 := blk_cell BK4.out 0
  have e41 := blk_cell BK4.out 1
  have f40 := blk_frozen BK4.out 0
  have f41 := blk_frozen BK4.out 1
  try simp at e20 e21 e30 e31 e40 e41
  have NE42 := NE4_2.out
  have hg42 := Aside0.mk (show g5 ≠ g4 from N54.out)
  by_cases ht : t = (p : Int)
  ·have z1 : (t == (p : Int)) = true := beq_iff_eq.2 ht
   have HT := Aside0.mk (show t2 = (q : Int) by rw [H3.out, if_pos ht])
   clear ht
   go_wp2
   refine bodyPost_ret (results_ct rfl _ _ g4 27 #[.slice (some ⟨g5, 0, none⟩) l.length cap5, .int .i64 (q : Int)] (0, 0) _ rfl (by refine blk_put (cs := #[.slice (some ⟨g5, 0, none⟩) l.length cap5, .int .i64 0]) ?_ 1 _ rfl; refine blk_put (cs := #[.slice none 0 0, .int .i64 0]) ?_ 0 _ rfl; exact blk_far (p := ⟨g2, 1, none⟩) BK4.out NE42 _) Try.underlying27 rfl (by kernel_rfl)) rfl ?_
   exact ⟨.slice (some ⟨g5, 0, none⟩) l.length cap5, by rw [HT.out]; rfl, Kd.R_set (Kd.R_set (Kd.R_set HO1.out BK2.out (by decide) 1 _) (blk_far (p := ⟨g2, 1, none⟩) BK4.out NE42 _) (by decide) 0 _) (blk_set (blk_far (p := ⟨g2, 1, none⟩) BK4.out NE42 _) 0 _) (by decide) 1 _, below_set (below_set (below_set HB.out GE2.out) GE4.out) GE4.out⟩
  ·have z1 : (t == (p : Int)) = false := beq_eq_false_iff_ne.2 ht
   have HT := Aside0.mk (show t2 = t by rw [H3.out, if_neg ht])
   clear ht
   go_wp2
   refine bodyPost_ret (results_ct rfl _ _ g4 27 #[.slice (some ⟨g5, 0, none⟩) l.length cap5, .int .i64 t] (0, 0) _ rfl (by refine blk_put (cs := #[.slice (some ⟨g5, 0, none⟩) l.length cap5, .int .i64 0]) ?_ 1 _ rfl; refine blk_put (cs := #[.slice none 0 0, .int .i64 0]) ?_ 0 _ rfl; exact BK4.out) Try.underlying27 rfl (by kernel_rfl)) rfl ?_
   exact ⟨.slice (some ⟨g5, 0, none⟩) l.length cap5, by rw [HT.out]; rfl, Kd.R_set (Kd.R_set HO1.out BK4.out (by decide) 0 _) (blk_set BK4.out 0 _) (by decide) 1 _, below_set (below_set HB.out GE4.out) GE4.out⟩
def layout_Do.f (l : List Bool) (t p q : Int) : Option (List Bool × Int × Int) :=
 if ¬ l.length ≤ 1000000 then none else if p < 0 ∨ (l.length : Int) ≤ p ∨ q < 0 ∨ (l.length : Int) ≤ q then some ([], 0, 3) else if l.getD p.toNat false = false ∨ l.getD q.toNat false = true then some ([], 0, 13) else some ((l.set p.toNat false).set q.toNat true, if t = p then q else t, 0)
theorem layout_Do.calls (A0_0 : Option Addr) (c0_0 : Nat) (l0_0 : List Bool) (a0_1 : Int) (a1_0 : Int) (a1_1 : Int) (r1 : List Bool) (r2 : Int) (r3 : Int) (w : World) (hr0_0 : Kd.C Kd.bool w A0_0 l0_0.length l0_0) (hc0_0 : l0_0.length ≤ c0_0) (h : layout_Do.f l0_0 a0_1 a1_0 a1_1 = some (r1, r2, r3)) :
  Calls Try.prog 30 #[.agg #[.slice A0_0 l0_0.length c0_0, .int .i64 a0_1], .agg #[.int .i64 a1_0, .int .i64 a1_1]] w fun e w' => ∃ v0_ : Value, e = .returned (.tuple #[.agg #[v0_, .int .i64 r2], .int .i64 r3]) ∧ Kd.R Kd.bool 4 w' w.heap.size (fun _ => True) v0_ r1 ∧ Below w.heap.size w w' := by
 unfold layout_Do.f at h
 by_cases hl : l0_0.length ≤ 1000000
 ·rw [if_neg (not_not_intro hl)] at h
  by_cases h1 : a1_0 < 0 ∨ (l0_0.length : Int) ≤ a1_0 ∨ a1_1 < 0 ∨ (l0_0.length : Int) ≤ a1_1
  ·rw [if_pos h1] at h
   injection h with h
   injection h with e1 h
   injection h with e2 e3
   subst e1 e2 e3
   exact do_range A0_0 c0_0 l0_0 a0_1 a1_0 a1_1 w hl h1
  ·rw [if_neg h1] at h
   obtain ⟨p, rfl⟩ : ∃ p : Nat, a1_0 = p := ⟨a1_0.toNat, by omega⟩
   obtain ⟨q, rfl⟩ : ∃ q : Nat, a1_1 = q := ⟨a1_1.toNat, by omega⟩
   rw [Int.toNat_natCast, Int.toNat_natCast] at h
   by_cases h2 : l0_0.getD p false = false ∨ l0_0.getD q false = true
   ·rw [if_pos h2] at h
    injection h with h
    injection h with e1 h
    injection h with e2 e3
    subst e1 e2 e3
    exact do_place A0_0 c0_0 l0_0 a0_1 p q w hl (by omega) (by omega) hc0_0 hr0_0 h2
   ·rw [if_neg h2] at h
    injection h with h
    injection h with e1 h
    injection h with e2 e3
    subst e1 e3
    exact do_ok A0_0 c0_0 l0_0 a0_1 p q w hl (by omega) (by omega) hc0_0 hr0_0 r2 e2.symm (by cases e : l0_0.getD p false <;> simp_all) (by cases e : l0_0.getD q false <;> simp_all)
 ·rw [if_pos hl] at h
  cases h
end Go.Proofs.Ytogmjilaiopjmaa.P
end
section
set_option linter.unusedVariables false
set_option linter.unusedSimpArgs false
namespace Go.Proofs.Ytogmjilaiopjmaa.P
theorem rk_lt_bin : ∀ l : List Bool, rk l < bin l.length (shel l)
 | [] => by simp [rk, shel, bin]
 | true :: bs => by
  have h := rk_lt_bin bs
  rw [shel_cons, if_pos rfl, Nat.add_comm, List.length_cons, bin_succ, rk]
  omega
 | false :: bs => by
  have h := rk_lt_bin bs
  rw [shel_cons, if_neg (by simp), Nat.zero_add, List.length_cons, rk]
  by_cases h0 : 0 < shel bs
  ·rw [if_pos h0]
   obtain ⟨k, hk⟩ : ∃ k, shel bs = k + 1 := ⟨shel bs - 1, by omega⟩
   rw [hk] at h ⊢
   rw [bin_succ, Nat.add_sub_cancel]
   omega
  ·rw [if_neg h0]
   have e : shel bs = 0 := by omega
   rw [e, bin_zero] at h ⊢
   omega
theorem unr_rk : ∀ l : List Bool, unr l.length (shel l) (rk l) = l
 | [] => rfl
 | true :: bs => by
  have h := unr_rk bs
  have hl := rk_lt_bin bs
  rw [List.length_cons, shel_cons, if_pos rfl, Nat.add_comm 1, rk, unr_yes (by omega) (by simpa using hl), Nat.add_sub_cancel, h]
 | false :: bs => by
  have h := unr_rk bs
  rw [List.length_cons, shel_cons, if_neg (by simp), Nat.zero_add, rk]
  by_cases h0 : 0 < shel bs
  ·rw [if_pos h0, unr_no h0 (by omega), Nat.add_sub_cancel_left, h]
  ·rw [if_neg h0, Nat.zero_add]
   have e : shel bs = 0 := by omega
   rw [e] at h ⊢
   rw [unr_none, h]
theorem shel_unr : ∀ m need r, need ≤ m → r < bin m need → shel (unr m need r) = need ∧ rk (unr m need r) = r
 | 0, need, r, h, hr => by
  obtain rfl : need = 0 := by omega
  rw [bin_zero] at hr
  obtain rfl : r = 0 := by omega
  exact ⟨rfl, rfl⟩
 | m + 1, 0, r, _, hr => by
  rw [bin_zero] at hr
  obtain rfl : r = 0 := by omega
  obtain ⟨h1, h2⟩ := shel_unr m 0 0 (by omega) (by rw [bin_zero]; omega)
  rw [unr_none, shel_cons, rk, h1, h2]
  simp
 | m + 1, need + 1, r, h, hr => by
  rw [bin_succ] at hr
  by_cases hb : r < bin m need
  ·obtain ⟨h1, h2⟩ := shel_unr m need r (by omega) hb
   rw [unr_yes (by omega) (by simpa using hb), Nat.add_sub_cancel, shel_cons, rk, h1, h2]
   simp; omega
  ·have hn : need + 1 ≤ m := by
    rcases Nat.lt_or_ge m (need + 1) with hlt | hge
    ·rw [bin_big m (need + 1) hlt] at hr; omega
    ·exact hge
   obtain ⟨h1, h2⟩ := shel_unr m (need + 1) (r - bin m need) hn (by omega)
   rw [unr_no (by omega) (by simpa using hb), Nat.add_sub_cancel, shel_cons, rk, h1, h2, unr_len]
   simp
   omega
theorem shel_insT : ∀ (t : Nat) (l : List Bool), t ≤ l.length → shel (insT t l) = shel l + 1
 | 0, l, _ => by rw [insT, shel_cons]; simp; omega
 | t + 1, [], h => by simp at h
 | t + 1, b :: l, h => by rw [insT, shel_cons, shel_cons, shel_insT t l (by simpa using h)]; omega
theorem get_insT : ∀ (t : Nat) (l : List Bool), t ≤ l.length → (insT t l).getD t false = true
 | 0, l, _ => rfl
 | t + 1, [], h => by simp at h
 | t + 1, b :: l, h => by rw [insT, List.getD_cons_succ, get_insT t l (by simpa using h)]
theorem oth_insT (t : Nat) : ∀ (i : Nat) (l : List Bool), i ≤ t → t - i ≤ l.length → oth t i (insT (t - i) l) = l
 | i, [], h, h' => by
  obtain rfl : t = i := by simp at h'; omega
  rw [Nat.sub_self, insT, oth, if_pos rfl, oth]
 | i, b :: l, h, h' => by
  by_cases e : i = t
  ·subst e
   rw [Nat.sub_self, insT, oth, if_pos rfl, oth_past i (i + 1) _ (by omega)]
  ·rw [show t - i = (t - (i + 1)) + 1 by omega, insT, oth, if_neg e, oth_insT t (i + 1) l (by omega) (by simp at h'; omega)]
theorem insT_oth (t : Nat) : ∀ (i : Nat) (l : List Bool), i ≤ t → l.getD (t - i) false = true → insT (t - i) (oth t i l) = l
 | i, [], h, h' => by simp at h'
 | i, b :: l, h, h' => by
  by_cases e : i = t
  ·subst e
   simp at h'
   rw [Nat.sub_self, oth, if_pos rfl, oth_past i (i + 1) _ (by omega), insT, h']
  ·rw [show t - i = (t - (i + 1)) + 1 by omega, List.getD_cons_succ] at h'
   rw [oth, if_neg e, show t - i = (t - (i + 1)) + 1 by omega, insT, insT_oth t (i + 1) l (by omega) h']
theorem bin_rest {n k r : Nat} (hk : 1 ≤ k) (hk2 : k ≤ n) : r % bin (n - 1) (k - 1) < bin (n - 1) (k - 1) := Nat.mod_lt _ (bin_pos _ _ (by omega))
theorem unrL_right {n k r : Nat} (hk : 1 ≤ k) (hk2 : k ≤ n) (hr : r < cntN n k) : shel (unrL n k r) = k ∧ (unrL n k r).getD (unrT n k r) false = true := by
 have ht := unrT_lt hr
 obtain ⟨h1, _⟩ := shel_unr (n - 1) (k - 1) _ (by omega) (bin_rest (r := r) hk hk2)
 unfold unrL
 rw [shel_insT _ _ (by rw [unr_len]; omega), h1]
 exact ⟨by omega, get_insT _ _ (by rw [unr_len]; omega)⟩
theorem rank_unr {n k r : Nat} (hk : 1 ≤ k) (hk2 : k ≤ n) (hr : r < cntN n k) : rankN (unrL n k r) (unrT n k r) = r := by
 have ht := unrT_lt hr
 obtain ⟨_, h2⟩ := shel_unr (n - 1) (k - 1) _ (by omega) (bin_rest (r := r) hk hk2)
 unfold rankN
 rw [(unrL_right hk hk2 hr).1, unrL_len hr]
 have e : oth (unrT n k r) 0 (unrL n k r) = unr (n - 1) (k - 1) (r % bin (n - 1) (k - 1)) := by
  unfold unrL
  exact oth_insT _ 0 _ (by omega) (by rw [unr_len]; omega)
 rw [e, h2]
 unfold unrT
 rw [Nat.mul_comm]
 exact Nat.div_add_mod r _
theorem rank_parts {l : List Bool} {t : Nat} (ht : t < l.length) (h : l.getD t false = true) : rk (oth t 0 l) < bin (l.length - 1) (shel l - 1) := by
 have h1 := rk_lt_bin (oth t 0 l)
 have h2 := oth_len t 0 l (by omega) (by omega)
 have h3 := oth_shel t 0 l (by omega) (by rwa [Nat.sub_zero])
 rw [show (oth t 0 l).length = l.length - 1 by omega, show shel (oth t 0 l) = shel l - 1 by omega] at h1
 exact h1
theorem rank_lt {l : List Bool} {t : Nat} (ht : t < l.length) (h : l.getD t false = true) : rankN l t < cntN l.length (shel l) := by
 have h1 := rank_parts ht h
 unfold rankN cntN
 have h2 : (t + 1) * bin (l.length - 1) (shel l - 1) ≤ l.length * bin (l.length - 1) (shel l - 1) := Nat.mul_le_mul_right _ ht
 rw [Nat.add_mul, Nat.one_mul] at h2
 omega
theorem unr_rank {l : List Bool} {t : Nat} (ht : t < l.length) (h : l.getD t false = true) : unrT l.length (shel l) (rankN l t) = t ∧ unrL l.length (shel l) (rankN l t) = l := by
 have h1 := rank_parts ht h
 have e1 : unrT l.length (shel l) (rankN l t) = t := by
  unfold unrT rankN
  rw [Nat.mul_comm, Nat.mul_add_div (by omega), Nat.div_eq_of_lt h1, Nat.add_zero]
 refine ⟨e1, ?_⟩
 unfold unrL
 rw [e1]
 have e2 : rankN l t % bin (l.length - 1) (shel l - 1) = rk (oth t 0 l) := by
  unfold rankN
  rw [Nat.mul_comm, Nat.mul_add_mod, Nat.mod_eq_of_lt h1]
 have h2 := oth_len t 0 l (by omega) (by omega)
 have h3 := oth_shel t 0 l (by omega) (by rwa [Nat.sub_zero])
 rw [e2, show l.length - 1 = (oth t 0 l).length by omega, show shel l - 1 = shel (oth t 0 l) by omega, unr_rk]
 have := insT_oth t 0 l (by omega) (by rwa [Nat.sub_zero])
 rwa [Nat.sub_zero] at this
theorem shel_pos {l : List Bool} {t : Nat} (h : l.getD t false = true) : 1 ≤ shel l := by
 rw [List.getD_eq_getElem?_getD] at h
 cases hl : l[t]? with
 | none => rw [hl] at h; simp at h
 | some b =>
  rw [hl] at h
  simp at h
  subst h
  unfold shel
  exact List.count_pos_iff.2 (List.mem_of_getElem? hl)
end Go.Proofs.Ytogmjilaiopjmaa.P
end
section
set_option linter.unusedVariables false
set_option linter.unusedSimpArgs false
namespace Go.Proofs.Ytogmjilaiopjmaa.P
open Go.RowKit Go.Proofs.YtogmjilaiopjmaaW.PrintWords Go.Proofs.YtogmjilaiopjmaaW.PrintLast Go.Proofs.YtogmjilaiopjmaaW.PrintMore
attribute [local go_sem] max2_int min2_int max_two min_two max_three min_three max_four min_four
set_option linter.unusedVariables false
set_option linter.unusedSimpArgs false
attribute [local go_sem high] eqA51
def taquinref25_SameShifts.l0 : Nat → List (S51) → List (S51) → Int → Option (Bool)
 | 0, _, _, _ => none
 | k + 1, x0, x1, x5 => if x5 < (x0.length : Int) then (if 0 ≤ x5 then (if x5 < (x1.length : Int) then (if (!(((rd_T51 x0 x5).f0) == ((rd_T51 x1 x5).f0)) || (!(((rd_T51 x0 x5).f1) == ((rd_T51 x1 x5).f1)))) = true then (some false) else (taquinref25_SameShifts.l0 k x0 x1 (wrap64 (x5 + 1)))) else (none)) else (none)) else (some true)
def taquinref25_SameShifts.f (k : Nat) (l0 : List (S51)) (l1 : List (S51)) : Option (Bool) := if (l0.length : Int) = (l1.length : Int) then (taquinref25_SameShifts.l0 k l0 l1 0) else (some false)
set_option maxHeartbeats 8000000 in
set_option maxRecDepth 100000 in
theorem taquinref25_SameShifts.calls (k : Nat) (A0 : Option Addr) (c0 : Nat) (l0 : List (S51)) (A1 : Option Addr) (c1 : Nat) (l1 : List (S51)) (r : Bool) (w : World) (hr0 : Kd.C k51 w A0 l0.length l0) (hc0 : l0.length ≤ c0) (hr1 : Kd.C k51 w A1 l1.length l1) (hc1 : l1.length ≤ c1) (h : taquinref25_SameShifts.f k l0 l1 = some r) :
  Calls Try.prog 23 #[.slice A0 l0.length c0, .slice A1 l1.length c1] w fun e w' => e = .returned (.bool r) ∧ Drawn0 w w' := by
 have hu51 := Try.underlying51
 have HR0 := Aside0.mk hr0
 have HC0 := Aside0.mk hc0
 clear hr0 hc0
 have HR1 := Aside0.mk hr1
 have HC1 := Aside0.mk hc1
 clear hr1 hc1
 have H : (if (l0.length : Int) = (l1.length : Int) then (taquinref25_SameShifts.l0 k l0 l1 0) else (some false)) = some r := h
 clear h
 by_cases c3 : (l0.length : Int) = (l1.length : Int)
 ·rw [if_pos c3] at H
  have c3b0 : ((l0.length : Int) == (l1.length : Int)) = true := beq_iff_eq.mpr c3
  have c3b1 : ((l0.length : Int) != (l1.length : Int)) = false := bne_eq_false_iff_eq.mpr c3
  have c3b2 : (l0.length == l1.length) = true := by first | simpa using c3 | (simp at c3 ⊢; omega)
  clear c3
  have H' := Aside0.mk H
  clear H
  go_enter Try.func23, Try.ntmps23
  go_wp2
  repeat (go_quiet (fail); try go_wp2)
  go_loopg [5] k (fun kq v5 w' => ∃ (x5_1 : Int), v5 = .int .i64 x5_1 ∧ Aside0 (taquinref25_SameShifts.l0 kq l0 l1 x5_1 = some r) ∧ Aside0 (kq ≤ k) ∧ Drawn0 w w')
  case atStart => exact ⟨(0), (by first | rfl | (simp; done) | (simp [*]; done)), H', ⟨Nat.le_refl _⟩, by repeat (first | exact Drawn0.refl _ | apply Drawn0.step)⟩
  case round =>
   clear H'
   try clear c1
   try clear c2
   try clear p2
   try clear c3
   try clear c3b0
   try clear c3b1
   try clear c3b2
   obtain ⟨x5_1, rfl, HA, HK1, ⟨m1, rfl⟩⟩ := hrel
   cases gk with
   | zero => exact absurd HA.out (by simp [taquinref25_SameShifts.l0])
   | succ k1 =>
    have H := HA.out
    clear HA
    simp only [taquinref25_SameShifts.l0] at H
    by_cases c4 : x5_1 < (l0.length : Int)
    ·rw [if_pos c4] at H
     have c4b0 : decide (x5_1 < (l0.length : Int)) = true := decide_eq_true c4
     clear c4
     by_cases c5 : 0 ≤ x5_1
     ·rw [if_pos c5] at H
      have c5b0 : decide (0 ≤ x5_1) = true := decide_eq_true c5
      clear c5
      by_cases c6 : x5_1 < (l1.length : Int)
      ·rw [if_pos c6] at H
       have c6b0 : decide (x5_1 < (l1.length : Int)) = true := decide_eq_true c6
       clear c6
       by_cases c7 : (!(((rd_T51 l0 x5_1).f0) == ((rd_T51 l1 x5_1).f0)) || (!(((rd_T51 l0 x5_1).f1) == ((rd_T51 l1 x5_1).f1)))) = true
       ·rw [if_pos c7] at H
        have c7b0 : (!(((rd_T51 l0 x5_1).f0) == ((rd_T51 l1 x5_1).f0)) || (!(((rd_T51 l0 x5_1).f1) == ((rd_T51 l1 x5_1).f1)))) = true := c7
        clear c7
        obtain rfl := Option.some.inj H
        have p191 : 0 ≤ (x5_1 : Int) := of_decide_eq_true (by first | (with_reducible assumption) | assumption)
        have q191 : x5_1 < (l0.length : Int) := of_decide_eq_true (by first | (with_reducible assumption) | assumption)
        obtain ⟨ad191, e191, hx191_0, hx191_1⟩ := at_T51 HR0.out x5_1 p191 q191
        cases e191
        replace p191 := eq_true p191
        replace q191 := eq_true q191
        have p192 : 0 ≤ (x5_1 : Int) := of_decide_eq_true (by first | (with_reducible assumption) | assumption)
        have q192 : x5_1 < (l1.length : Int) := of_decide_eq_true (by first | (with_reducible assumption) | assumption)
        obtain ⟨ad192, e192, hx192_0, hx192_1⟩ := at_T51 HR1.out x5_1 p192 q192
        cases e192
        replace p192 := eq_true p192
        replace q192 := eq_true q192
        go_wp2
        repeat (go_quiet (fail); try go_wp2)
        go_ret
        exact ⟨by first | rfl | (simp; done) | (simp [*]; done), by repeat (first | exact Drawn0.refl _ | apply Drawn0.step)⟩
       ·rw [if_neg c7] at H
        have c7b0 : (!(((rd_T51 l0 x5_1).f0) == ((rd_T51 l1 x5_1).f0)) || (!(((rd_T51 l0 x5_1).f1) == ((rd_T51 l1 x5_1).f1)))) = false := by simpa using c7
        clear c7
        have H' := Aside0.mk H
        clear H
        have p191 : 0 ≤ (x5_1 : Int) := of_decide_eq_true (by first | (with_reducible assumption) | assumption)
        have q191 : x5_1 < (l0.length : Int) := of_decide_eq_true (by first | (with_reducible assumption) | assumption)
        obtain ⟨ad191, e191, hx191_0, hx191_1⟩ := at_T51 HR0.out x5_1 p191 q191
        cases e191
        replace p191 := eq_true p191
        replace q191 := eq_true q191
        have p192 : 0 ≤ (x5_1 : Int) := of_decide_eq_true (by first | (with_reducible assumption) | assumption)
        have q192 : x5_1 < (l1.length : Int) := of_decide_eq_true (by first | (with_reducible assumption) | assumption)
        obtain ⟨ad192, e192, hx192_0, hx192_1⟩ := at_T51 HR1.out x5_1 p192 q192
        cases e192
        replace p192 := eq_true p192
        replace q192 := eq_true q192
        go_wp2
        repeat (go_quiet (fail); try go_wp2)
        go_roundg k1
        case measure => have := HK1.out; omega
        case rel => exact ⟨(wrap64 (x5_1 + 1)), (by first | rfl | (simp; done) | (simp [*]; done)), H', ⟨by have := HK1.out; omega⟩, by repeat (first | exact Drawn0.refl _ | apply Drawn0.step)⟩
      ·rw [if_neg c6] at H
       exact absurd H (by simp)
     ·rw [if_neg c5] at H
      exact absurd H (by simp)
    ·rw [if_neg c4] at H
     have c4b0 : decide (x5_1 < (l0.length : Int)) = false := decide_eq_false c4
     clear c4
     obtain rfl := Option.some.inj H
     go_wp2
     repeat (go_quiet (fail); try go_wp2)
     go_ret
     exact ⟨by first | rfl | (simp; done) | (simp [*]; done), by repeat (first | exact Drawn0.refl _ | apply Drawn0.step)⟩
 ·rw [if_neg c3] at H
  have c3b0 : ((l0.length : Int) == (l1.length : Int)) = false := beq_eq_false_iff_ne.mpr c3
  have c3b1 : ((l0.length : Int) != (l1.length : Int)) = true := bne_iff_ne.mpr c3
  have c3b2 : (l0.length == l1.length) = false := by first | simpa using c3 | (simp at c3 ⊢; omega)
  obtain rfl := Option.some.inj H
  go_enter Try.func23, Try.ntmps23
  go_wp2
  repeat (go_quiet (fail); try go_wp2)
  go_ret
  exact ⟨by first | rfl | (simp; done) | (simp [*]; done), by repeat (first | exact Drawn0.refl _ | apply Drawn0.step)⟩
end Go.Proofs.Ytogmjilaiopjmaa.P
end
section
set_option linter.unusedVariables false
set_option linter.unusedSimpArgs false
namespace Go.Proofs.Ytogmjilaiopjmaa.P
open Go.RowKit Go.Proofs.YtogmjilaiopjmaaW.PrintWords Go.Proofs.YtogmjilaiopjmaaW.PrintLast Go.Proofs.YtogmjilaiopjmaaW.PrintMore
attribute [local go_sem] max2_int min2_int max_two min_two max_three min_three max_four min_four
set_option linter.unusedVariables false
set_option linter.unusedSimpArgs false
def taquinlaw26_deck.l0 : Nat → Int → Int → Int → Int → Int → Int → List Int → List Int → Option (Int × Int × Int × List Int × List Int)
 | 0, _, _, _, _, _, _, _, _ => none
 | k + 1, x0, x1, x6, x195000, x195001, x195002, x195003, x195004 => if x6 < (wrap64 (x0 * x1)) then (if x195003.length < 17592186044416 then (if x195004.length < 17592186044416 then (taquinlaw26_deck.l0 k x0 x1 (wrap64 (x6 + 1)) x195000 x195001 x195002 (x195003 ++ [1]) (x195004 ++ [63])) else (none)) else (none)) else (some (x195000, x195001, x195002, x195003, x195004))
def taquinlaw26_deck.f (k : Nat) (a0 : Int) (a1 : Int) : Option (Int × Int × Int × List Int × List Int) := taquinlaw26_deck.l0 k a0 a1 0 a0 a1 1 ([] : List Int) ([] : List Int)
set_option maxHeartbeats 8000000 in
set_option maxRecDepth 100000 in
theorem taquinlaw26_deck.calls (k : Nat) (a0 : Int) (a1 : Int) (r1 : Int) (r2 : Int) (r3 : Int) (r4 : List Int) (r5 : List Int) (w : World) (h : taquinlaw26_deck.f k a0 a1 = some (r1, r2, r3, r4, r5)) :
  Calls Try.prog 53 #[.int .i64 a0, .int .i64 a1] w fun e w' => ∃ v3_ v4_ : Value, e = .returned (.agg #[.int .i64 r1, .int .i64 r2, .int .i64 r3, v3_, v4_]) ∧ Kd.R (Kd.int .i64) 3 w' w.heap.size (fun k_ => some k_ ≠ (v4_ : Value).ownBlock) v3_ r4 ∧ Kd.R (Kd.int .i64) 3 w' w.heap.size (fun k_ => some k_ ≠ (v3_ : Value).ownBlock) v4_ r5 ∧ Below w.heap.size w w' := by
 have hu24 := Try.underlying24
 have HB := Aside0.mk (Below.refl w.heap.size w)
 have H : (taquinlaw26_deck.l0 k a0 a1 0 a0 a1 1 ([] : List Int) ([] : List Int)) = some (r1, r2, r3, r4, r5) := h
 clear h
 have H' := Aside0.mk H
 clear H
 go_enter Try.func53, Try.ntmps53
 go_wp2_with (first | ((with_reducible refine gate_dst (N := 4) rfl ?_); refine box_event ?hg (N := 4) ?hd (cs := #[.int .i64 0, .int .i64 0, .int .i64 0, .slice none 0 0, .slice none 0 0]) (t := 24) ?hr ?_; (case hd => rfl); (case hg => rfl); (case hr => first | (go_simp; done) | (go_simp; rfl)); intro gb193 hg w3 hbox hb; have n0_ := Aside0.mk (below_step (by repeat (first | (with_reducible first | exact HB.out | apply below_alloc | apply pw_below_drewN | apply below_drew1) | exact HB.out)) hb); have n1_ := Aside0.mk (hbox); have n2_ := Aside0.mk ((by rw [hg]; exact (below_size (by repeat (first | (with_reducible first | exact HB.out | apply below_alloc | apply pw_below_drewN | apply below_drew1) | exact HB.out))) : w.heap.size ≤ gb193)); have n3_ := Aside0.mk ((by rw [hg]; exact (below_size (by repeat (first | (with_reducible first | exact HB.out | apply below_alloc | apply pw_below_drewN | apply below_drew1) | exact HB.out))) : w.heap.size ≤ gb193)); clear HB; have HB := n0_; have BK193 := n1_; have GW193 := n2_; have GE193 := n3_; clear n0_ n1_ n2_ n3_; clear hb hbox hg) | ((with_reducible refine gate_dst (N := 5) rfl ?_); refine box_event ?hg (N := 5) ?hd (cs := #[.int .i64 0, .int .i64 0, .int .i64 0, .slice none 0 0, .slice none 0 0]) (t := 24) ?hr ?_; (case hd => rfl); (case hg => rfl); (case hr => first | (go_simp; done) | (go_simp; rfl)); intro gb194 hg w4 hbox hb; have n0_ := Aside0.mk (blk_below (g := gb193) (o := .cells #[.int .i64 0, .int .i64 0, .int .i64 0, .slice none 0 0, .slice none 0 0] 24 (0, 0)) (by (with_reducible repeat (first | refine blk_drewN ?_ _ | refine blk_drew ?_ | refine blk_alloc ?_ _)); exact BK193.out) hb); have n1_ := Aside0.mk (below_step (by repeat (first | (with_reducible first | exact HB.out | apply below_alloc | apply pw_below_drewN | apply below_drew1 | refine below_set ?_ GE193.out) | exact HB.out)) hb); have n2_ := Aside0.mk (hbox); have n3_ := Aside0.mk ((by rw [hg]; exact (below_size (by repeat (first | (with_reducible first | exact HB.out | apply below_alloc | apply pw_below_drewN | apply below_drew1 | refine below_set ?_ GE193.out) | exact HB.out))) : w.heap.size ≤ gb194)); have n4_ := Aside0.mk ((by rw [hg]; exact (below_size (by repeat (first | (with_reducible first | exact HB.out | apply below_alloc | apply pw_below_drewN | apply below_drew1 | refine below_set ?_ GE193.out) | exact HB.out))) : w.heap.size ≤ gb194)); have n5_ := Aside0.mk ((by rw [hg]; exact Nat.ne_of_lt (blk_lt (g := gb193) (o := .cells #[.int .i64 0, .int .i64 0, .int .i64 0, .slice none 0 0, .slice none 0 0] 24 (0, 0)) (by (with_reducible repeat (first | refine blk_drewN ?_ _ | refine blk_drew ?_ | refine blk_alloc ?_ _)); exact BK193.out)) : gb193 ≠ gb194)); have n6_ := Aside0.mk ((by rw [hg]; exact Nat.ne_of_gt (blk_lt (g := gb193) (o := .cells #[.int .i64 0, .int .i64 0, .int .i64 0, .slice none 0 0, .slice none 0 0] 24 (0, 0)) (by (with_reducible repeat (first | refine blk_drewN ?_ _ | refine blk_drew ?_ | refine blk_alloc ?_ _)); exact BK193.out)) : gb194 ≠ gb193)); clear BK193; clear HB; have BK193 := n0_; have HB := n1_; have BK194 := n2_; have GW194 := n3_; have GE194 := n4_; have NB193_194 := n5_; have NB194_193 := n6_; clear n0_ n1_ n2_ n3_ n4_ n5_ n6_; clear hb hbox hg; have hnb5 := NB194_193.out; have hnc5 := NB193_194.out; have hcz6_0 : w4.cell? ⟨gb194, 0, none⟩ = some (.int .i64 0) := (blk_cell BK194.out 0).trans rfl; have hcz6_1 : w4.cell? ⟨gb194, 1, none⟩ = some (.int .i64 0) := (blk_cell BK194.out 1).trans rfl; have hcz6_2 : w4.cell? ⟨gb194, 2, none⟩ = some (.int .i64 0) := (blk_cell BK194.out 2).trans rfl; have hcz6_3 : w4.cell? ⟨gb194, 3, none⟩ = some (.slice none 0 0) := (blk_cell BK194.out 3).trans rfl; have hcz6_4 : w4.cell? ⟨gb194, 4, none⟩ = some (.slice none 0 0) := (blk_cell BK194.out 4).trans rfl; have hfz6_0 := blk_frozen BK194.out 0; have hfz6_1 := blk_frozen BK194.out 1; have hfz6_2 := blk_frozen BK194.out 2; have hfz6_3 := blk_frozen BK194.out 3; have hfz6_4 := blk_frozen BK194.out 4))
 go_loopg [6] k (fun kq v6 w' => ∃ (x6_1 : Int) (x195003_1 : List Int) (x195004_1 : List Int) (u195003 : Value) (u195004 : Value), v6 = .int .i64 x6_1 ∧ Aside0 (taquinlaw26_deck.l0 kq a0 a1 x6_1 a0 a1 1 x195003_1 x195004_1 = some (r1, r2, r3, r4, r5)) ∧ Aside0 (kq ≤ k) ∧ Aside0 (Kd.R (Kd.int .i64) 3 w' w.heap.size (fun k_ => some k_ ≠ (u195004 : Value).ownBlock) u195003 x195003_1) ∧ Aside0 (Kd.R (Kd.int .i64) 3 w' w.heap.size (fun k_ => some k_ ≠ (u195003 : Value).ownBlock) u195004 x195004_1) ∧ Aside0 (w'.heap[gb193]? = some (.cells #[.int .i64 0, .int .i64 0, .int .i64 0, (.slice none 0 0), (.slice none 0 0)] 24 (0, 0))) ∧ Aside0 (w'.heap[gb194]? = some (.cells #[.int .i64 a0, .int .i64 a1, .int .i64 1, u195003, u195004] 24 (0, 0))) ∧ Aside0 (Below w.heap.size w w'))
 case atStart => exact ⟨(0), (([] : List Int)), (([] : List Int)), (.slice none 0 0), (.slice none 0 0), (by first | rfl | (simp; done) | (simp [*]; done)), H', ⟨Nat.le_refl _⟩, ⟨by first | exact Kd.R_nil _ _ _ _ _ | exact Kd.N_nil _ _ _ _ _ | exact Kd.V_nil _ _ _ _ _ | exact Kd.Q_nil _ _ _ _ _ | exact Kd.S_nil _ _ _ _ _⟩, ⟨by first | exact Kd.R_nil _ _ _ _ _ | exact Kd.N_nil _ _ _ _ _ | exact Kd.V_nil _ _ _ _ _ | exact Kd.Q_nil _ _ _ _ _ | exact Kd.S_nil _ _ _ _ _⟩, ⟨by (with_reducible repeat (first | refine blk_drewN ?_ _ | refine blk_drew ?_ | refine blk_alloc ?_ _)); refine blk_far ?_ NB193_194.out _; (with_reducible repeat (first | refine blk_drewN ?_ _ | refine blk_drew ?_ | refine blk_alloc ?_ _)); refine blk_far ?_ NB193_194.out _; (with_reducible repeat (first | refine blk_drewN ?_ _ | refine blk_drew ?_ | refine blk_alloc ?_ _)); refine blk_far ?_ NB193_194.out _; (with_reducible repeat (first | refine blk_drewN ?_ _ | refine blk_drew ?_ | refine blk_alloc ?_ _)); refine blk_far ?_ NB193_194.out _; (with_reducible repeat (first | refine blk_drewN ?_ _ | refine blk_drew ?_ | refine blk_alloc ?_ _)); refine blk_far ?_ NB193_194.out _; (with_reducible repeat (first | refine blk_drewN ?_ _ | refine blk_drew ?_ | refine blk_alloc ?_ _)); exact BK193.out⟩, ⟨by (with_reducible repeat (first | refine blk_drewN ?_ _ | refine blk_drew ?_ | refine blk_alloc ?_ _)); refine blk_put (cs := #[.int .i64 a0, .int .i64 a1, .int .i64 1, .slice none 0 0, .slice none 0 0]) ?_ 4 _ rfl; (with_reducible repeat (first | refine blk_drewN ?_ _ | refine blk_drew ?_ | refine blk_alloc ?_ _)); refine blk_put (cs := #[.int .i64 a0, .int .i64 a1, .int .i64 1, .slice none 0 0, .slice none 0 0]) ?_ 3 _ rfl; (with_reducible repeat (first | refine blk_drewN ?_ _ | refine blk_drew ?_ | refine blk_alloc ?_ _)); refine blk_put (cs := #[.int .i64 a0, .int .i64 a1, .int .i64 0, .slice none 0 0, .slice none 0 0]) ?_ 2 _ rfl; (with_reducible repeat (first | refine blk_drewN ?_ _ | refine blk_drew ?_ | refine blk_alloc ?_ _)); refine blk_put (cs := #[.int .i64 a0, .int .i64 0, .int .i64 0, .slice none 0 0, .slice none 0 0]) ?_ 1 _ rfl; (with_reducible repeat (first | refine blk_drewN ?_ _ | refine blk_drew ?_ | refine blk_alloc ?_ _)); refine blk_put (cs := #[.int .i64 0, .int .i64 0, .int .i64 0, .slice none 0 0, .slice none 0 0]) ?_ 0 _ rfl; (with_reducible repeat (first | refine blk_drewN ?_ _ | refine blk_drew ?_ | refine blk_alloc ?_ _)); exact BK194.out⟩, ⟨by repeat (first | (with_reducible first | exact HB.out | apply below_alloc | apply pw_below_drewN | apply below_drew1 | refine below_set ?_ GE193.out | refine below_set ?_ GE194.out) | exact HB.out)⟩⟩
 case round =>
  clear H'
  try clear p2
  try clear c5
  try clear hcz6_0
  try clear hcz6_1
  try clear hcz6_2
  try clear hcz6_3
  try clear hcz6_4
  try clear hfz6_0
  try clear hfz6_1
  try clear hfz6_2
  try clear hfz6_3
  try clear hfz6_4
  obtain ⟨x6_1, x195003_1, x195004_1, u195003, u195004, rfl, HA, HK1, HO_195003, HO_195004, BK193, BK194, HB⟩ := hrel
  cases gk with
  | zero => exact absurd HA.out (by simp [taquinlaw26_deck.l0])
  | succ k1 =>
   have H := HA.out
   clear HA
   simp only [taquinlaw26_deck.l0] at H
   by_cases c7 : x6_1 < (wrap64 (a0 * a1))
   ·rw [if_pos c7] at H
    have c7b0 : decide (x6_1 < (wrap64 (a0 * a1))) = true := decide_eq_true c7
    clear c7
    by_cases c8 : x195003_1.length < 17592186044416
    ·rw [if_pos c8] at H
     have LMc8 := Aside0.mk c8
     clear c8
     obtain ⟨y195, hy195⟩ : ∃ y_ : List Int, y_ = (x195003_1 ++ [1]) := ⟨_, rfl⟩
     replace H : (if x195004_1.length < 17592186044416 then (taquinlaw26_deck.l0 k1 a0 a1 (wrap64 (x6_1 + 1)) a0 a1 1 y195 (x195004_1 ++ [63])) else (none)) = some (r1, r2, r3, r4, r5) := by first | (rw [hy195]; with_reducible exact H) | (have H2_ := (Option.bind_some _ _).symm.trans H; rw [hy195]; with_reducible exact H2_) | (have H2_ := (Option.bind_some _ _).symm.trans H; with_reducible exact H2_) | with_reducible exact H | (rw [hy195]; exact H) | exact H
     have Ny195 := Aside0.mk hy195
     clear hy195
     by_cases c9 : x195004_1.length < 17592186044416
     ·rw [if_pos c9] at H
      have LMc9 := Aside0.mk c9
      clear c9
      obtain ⟨y198, hy198⟩ : ∃ y_ : List Int, y_ = (x195004_1 ++ [63]) := ⟨_, rfl⟩
      replace H : (taquinlaw26_deck.l0 k1 a0 a1 (wrap64 (x6_1 + 1)) a0 a1 1 y195 y198) = some (r1, r2, r3, r4, r5) := by first | (rw [hy198]; with_reducible exact H) | (have H2_ := (Option.bind_some _ _).symm.trans H; rw [hy198]; with_reducible exact H2_) | (have H2_ := (Option.bind_some _ _).symm.trans H; with_reducible exact H2_) | with_reducible exact H | (rw [hy198]; exact H) | exact H
      have Ny198 := Aside0.mk hy198
      clear hy198
      have H' := Aside0.mk H
      clear H
      have hnb10 := NB194_193.out
      have hnc10 := NB193_194.out
      have hcz11_0 : wr.cell? ⟨gb194, 0, none⟩ = some (.int .i64 a0) := (blk_cell BK194.out 0).trans rfl
      have hcz11_1 : wr.cell? ⟨gb194, 1, none⟩ = some (.int .i64 a1) := (blk_cell BK194.out 1).trans rfl
      have hcz11_2 : wr.cell? ⟨gb194, 2, none⟩ = some (.int .i64 1) := (blk_cell BK194.out 2).trans rfl
      have hcz11_3 : wr.cell? ⟨gb194, 3, none⟩ = some (u195003) := (blk_cell BK194.out 3).trans rfl
      have hcz11_4 : wr.cell? ⟨gb194, 4, none⟩ = some (u195004) := (blk_cell BK194.out 4).trans rfl
      have hfz11_0 := blk_frozen BK194.out 0
      have hfz11_1 := blk_frozen BK194.out 1
      have hfz11_2 := blk_frozen BK194.out 2
      have hfz11_3 := blk_frozen BK194.out 3
      have hfz11_4 := blk_frozen BK194.out 4
      go_wp2_with (first | ((with_reducible refine gate_builtin (b := .append) (xs := #[.tmp 18, .tmp 19]) rfl ?_); at_builtin; refine Kd.R_append (Kd.int .i64) (w0 := w) w.heap.size rfl (.tmp 18) (.tmp 19) 22 3 (.int .i64 0) 8 rfl Try.underlying22 info3 rfl (by decide) (by omega) u195003 x195003_1 1 [.int .i64 1] (fun k_ => some k_ ≠ (u195004 : Value).ownBlock) (fun _ => False) rfl rfl ?aP (fun _ hk => hk.elim) ?aF ?aO ?aB ?aS ?aL ?_; (case aP => exact rfl); (case aB => exact (by repeat (first | (with_reducible first | exact HB.out | apply below_alloc | apply pw_below_drewN | apply below_drew1 | refine below_set ?_ GE193.out | refine below_set ?_ GE194.out) | exact HB.out))); (case aF => exact (fun k_ hk => Kd.fresh' (Kd.R_lt (by (with_reducible repeat (first | apply Kd.R_alloc | apply Kd.R_drewN | apply Kd.R_drew)); exact HO_195004.out)) k_ hk)); (case aO => exact (by (with_reducible repeat (first | apply Kd.R_alloc | apply Kd.R_drewN | apply Kd.R_drew)); exact HO_195003.out)); (case aS => exact (below_size (by repeat (first | (with_reducible first | exact HB.out | apply below_alloc | apply pw_below_drewN | apply below_drew1 | refine below_set ?_ GE193.out | refine below_set ?_ GE194.out) | exact HB.out)))); (case aL => have := LMc8.out; omega); intro v196 w12 ho hb hg hat; rw [← Ny195.out] at ho; have n0_ := Aside0.mk (Kd.R_after (ok := (fun _ => True)) (by (with_reducible repeat (first | apply Kd.R_alloc | apply Kd.R_drewN | apply Kd.R_drew)); exact Kd.R_mono HO_195004.out (fun _ hk => ⟨trivial, hk⟩)) hg hat); have n1_ := Aside0.mk (blk_grown (g := gb193) (o := .cells #[.int .i64 0, .int .i64 0, .int .i64 0, .slice none 0 0, .slice none 0 0] 24 (0, 0)) (by (with_reducible repeat (first | refine blk_drewN ?_ _ | refine blk_drew ?_ | refine blk_alloc ?_ _)); exact BK193.out) hg (Kd.R_ne HO_195003.out BK193.out (by decide))); have n2_ := Aside0.mk (blk_grown (g := gb194) (o := .cells #[.int .i64 a0, .int .i64 a1, .int .i64 1, u195003, u195004] 24 (0, 0)) (by (with_reducible repeat (first | refine blk_drewN ?_ _ | refine blk_drew ?_ | refine blk_alloc ?_ _)); exact BK194.out) hg (Kd.R_ne HO_195003.out BK194.out (by decide))); have n3_ := Aside0.mk (hb); have n4_ := Aside0.mk (ho); clear HO_195004; clear BK193; clear BK194; clear HB; clear HO_195003; have HO_195004 := n0_; have BK193 := n1_; have BK194 := n2_; have HB := n3_; have HO197 := n4_; clear n0_ n1_ n2_ n3_ n4_; clear ho hb hg hat; obtain ⟨Ao13, co13, eo13⟩ := Kd.R_slice HO197.out; subst eo13; have hcz14_0 : w12.cell? ⟨gb194, 0, none⟩ = some (.int .i64 a0) := (blk_cell BK194.out 0).trans rfl; have hcz14_1 : w12.cell? ⟨gb194, 1, none⟩ = some (.int .i64 a1) := (blk_cell BK194.out 1).trans rfl; have hcz14_2 : w12.cell? ⟨gb194, 2, none⟩ = some (.int .i64 1) := (blk_cell BK194.out 2).trans rfl; have hcz14_3 : w12.cell? ⟨gb194, 3, none⟩ = some (u195003) := (blk_cell BK194.out 3).trans rfl; have hcz14_4 : w12.cell? ⟨gb194, 4, none⟩ = some (u195004) := (blk_cell BK194.out 4).trans rfl; have hfz14_0 := blk_frozen BK194.out 0; have hfz14_1 := blk_frozen BK194.out 1; have hfz14_2 := blk_frozen BK194.out 2; have hfz14_3 := blk_frozen BK194.out 3; have hfz14_4 := blk_frozen BK194.out 4) | ((with_reducible refine gate_builtin (b := .append) (xs := #[.tmp 23, .tmp 24]) rfl ?_); at_builtin; refine Kd.R_append (Kd.int .i64) (w0 := w) w.heap.size rfl (.tmp 23) (.tmp 24) 22 3 (.int .i64 0) 8 rfl Try.underlying22 info3 rfl (by decide) (by omega) u195004 x195004_1 63 [.int .i64 63] (fun k_ => some k_ ≠ (.slice Ao13 y195.length co13 : Value).ownBlock) (fun _ => False) rfl (by first | (go_simp; done) | (go_simp; rfl)) ?aP (fun _ hk => hk.elim) ?aF ?aO ?aB ?aS ?aL ?_; (case aP => exact rfl); (case aB => exact (by repeat (first | (with_reducible first | exact HB.out | apply below_alloc | apply pw_below_drewN | apply below_drew1 | refine below_set ?_ GE193.out | refine below_set ?_ GE194.out) | exact HB.out))); (case aF => exact (fun k_ hk => Kd.fresh' (Kd.R_lt (by (with_reducible repeat (first | apply Kd.R_alloc | apply Kd.R_drewN | apply Kd.R_drew)); exact (Kd.R_mono (Kd.R_far (p := ⟨gb194, 3, none⟩) (Kd.R_types HO197.out BK194.out (by decide)) (fun _ hk => hk.2) (.slice Ao13 y195.length co13)) (fun _ h_ => h_.1)))) k_ hk)); (case aO => exact (by (with_reducible repeat (first | apply Kd.R_alloc | apply Kd.R_drewN | apply Kd.R_drew)); exact Kd.R_mono (Kd.R_far (p := ⟨gb194, 3, none⟩) (Kd.R_types HO_195004.out BK194.out (by decide)) (fun _ hk => hk.2) (.slice Ao13 y195.length co13)) (fun _ hk => hk.1.2))); (case aS => exact (below_size (by repeat (first | (with_reducible first | exact HB.out | apply below_alloc | apply pw_below_drewN | apply below_drew1 | refine below_set ?_ GE193.out | refine below_set ?_ GE194.out) | exact HB.out)))); (case aL => have := LMc9.out; omega); intro v199 w15 ho hb hg hat; rw [← Ny198.out] at ho; have n0_ := Aside0.mk (blk_grown (g := gb193) (o := .cells #[.int .i64 0, .int .i64 0, .int .i64 0, .slice none 0 0, .slice none 0 0] 24 (0, 0)) (by (with_reducible repeat (first | refine blk_drewN ?_ _ | refine blk_drew ?_ | refine blk_alloc ?_ _)); refine blk_far ?_ NB193_194.out _; (with_reducible repeat (first | refine blk_drewN ?_ _ | refine blk_drew ?_ | refine blk_alloc ?_ _)); exact BK193.out) hg (Kd.R_ne HO_195004.out BK193.out (by decide))); have n1_ := Aside0.mk (blk_grown (g := gb194) (o := .cells #[.int .i64 a0, .int .i64 a1, .int .i64 1, .slice Ao13 y195.length co13, u195004] 24 (0, 0)) (by (with_reducible repeat (first | refine blk_drewN ?_ _ | refine blk_drew ?_ | refine blk_alloc ?_ _)); refine blk_put (cs := #[.int .i64 a0, .int .i64 a1, .int .i64 1, u195003, u195004]) ?_ 3 _ rfl; (with_reducible repeat (first | refine blk_drewN ?_ _ | refine blk_drew ?_ | refine blk_alloc ?_ _)); exact BK194.out) hg (Kd.R_ne HO_195004.out BK194.out (by decide))); have n2_ := Aside0.mk (Kd.R_after (ok := (fun _ => True)) (by (with_reducible repeat (first | apply Kd.R_alloc | apply Kd.R_drewN | apply Kd.R_drew)); exact Kd.R_mono (Kd.R_far (p := ⟨gb194, 3, none⟩) (Kd.R_types HO197.out BK194.out (by decide)) (fun _ hk => hk.2) (.slice Ao13 y195.length co13)) (fun _ hk => ⟨trivial, hk.1⟩)) hg hat); have n3_ := Aside0.mk (hb); have n4_ := Aside0.mk (ho); clear BK193; clear BK194; clear HO197; clear HB; clear HO_195004; have BK193 := n0_; have BK194 := n1_; have HO197 := n2_; have HB := n3_; have HO200 := n4_; clear n0_ n1_ n2_ n3_ n4_; clear ho hb hg hat; obtain ⟨Ao16, co16, eo16⟩ := Kd.R_slice HO200.out; subst eo16; have hcz17_0 : w15.cell? ⟨gb194, 0, none⟩ = some (.int .i64 a0) := (blk_cell BK194.out 0).trans rfl; have hcz17_1 : w15.cell? ⟨gb194, 1, none⟩ = some (.int .i64 a1) := (blk_cell BK194.out 1).trans rfl; have hcz17_2 : w15.cell? ⟨gb194, 2, none⟩ = some (.int .i64 1) := (blk_cell BK194.out 2).trans rfl; have hcz17_3 : w15.cell? ⟨gb194, 3, none⟩ = some (.slice Ao13 y195.length co13) := (blk_cell BK194.out 3).trans rfl; have hcz17_4 : w15.cell? ⟨gb194, 4, none⟩ = some (u195004) := (blk_cell BK194.out 4).trans rfl; have hfz17_0 := blk_frozen BK194.out 0; have hfz17_1 := blk_frozen BK194.out 1; have hfz17_2 := blk_frozen BK194.out 2; have hfz17_3 := blk_frozen BK194.out 3; have hfz17_4 := blk_frozen BK194.out 4))
      go_roundg k1
      case measure => have := HK1.out; omega
      case rel => exact ⟨(wrap64 (x6_1 + 1)), (y195), (y198), (.slice Ao13 y195.length co13), (.slice Ao16 y198.length co16), (by first | rfl | (simp; done) | (simp [*]; done)), H', ⟨by have := HK1.out; omega⟩, ⟨by (with_reducible repeat (first | apply Kd.R_alloc | apply Kd.R_drewN | apply Kd.R_drew)); exact Kd.R_mono (Kd.R_far (p := ⟨gb194, 4, none⟩) (Kd.R_types HO197.out BK194.out (by decide)) (fun _ hk => hk.2) (.slice Ao16 y198.length co16)) (fun _ hk => hk.1.2)⟩, ⟨by (with_reducible repeat (first | apply Kd.R_alloc | apply Kd.R_drewN | apply Kd.R_drew)); exact Kd.R_mono (Kd.R_far (p := ⟨gb194, 4, none⟩) (Kd.R_types HO200.out BK194.out (by decide)) (fun _ hk => hk.2) (.slice Ao16 y198.length co16)) (fun _ hk => hk.1)⟩, ⟨by (with_reducible repeat (first | refine blk_drewN ?_ _ | refine blk_drew ?_ | refine blk_alloc ?_ _)); refine blk_far ?_ NB193_194.out _; (with_reducible repeat (first | refine blk_drewN ?_ _ | refine blk_drew ?_ | refine blk_alloc ?_ _)); exact BK193.out⟩, ⟨by (with_reducible repeat (first | refine blk_drewN ?_ _ | refine blk_drew ?_ | refine blk_alloc ?_ _)); refine blk_put (cs := #[.int .i64 a0, .int .i64 a1, .int .i64 1, .slice Ao13 y195.length co13, u195004]) ?_ 4 _ rfl; (with_reducible repeat (first | refine blk_drewN ?_ _ | refine blk_drew ?_ | refine blk_alloc ?_ _)); exact BK194.out⟩, ⟨by repeat (first | (with_reducible first | exact HB.out | apply below_alloc | apply pw_below_drewN | apply below_drew1 | refine below_set ?_ GE193.out | refine below_set ?_ GE194.out) | exact HB.out)⟩⟩
     ·rw [if_neg c9] at H
      exact absurd H (by simp)
    ·rw [if_neg c8] at H
     exact absurd H (by simp)
   ·rw [if_neg c7] at H
    have c7b0 : decide (x6_1 < (wrap64 (a0 * a1))) = false := decide_eq_false c7
    clear c7
    simp only [Option.some.injEq, Prod.mk.injEq] at H
    obtain ⟨rfl, rfl, rfl, rfl, rfl⟩ := H
    have hnb18 := NB194_193.out
    have hnc18 := NB193_194.out
    have hcz19_0 : wr.cell? ⟨gb194, 0, none⟩ = some (.int .i64 a0) := (blk_cell BK194.out 0).trans rfl
    have hcz19_1 : wr.cell? ⟨gb194, 1, none⟩ = some (.int .i64 a1) := (blk_cell BK194.out 1).trans rfl
    have hcz19_2 : wr.cell? ⟨gb194, 2, none⟩ = some (.int .i64 1) := (blk_cell BK194.out 2).trans rfl
    have hcz19_3 : wr.cell? ⟨gb194, 3, none⟩ = some (u195003) := (blk_cell BK194.out 3).trans rfl
    have hcz19_4 : wr.cell? ⟨gb194, 4, none⟩ = some (u195004) := (blk_cell BK194.out 4).trans rfl
    have hfz19_0 := blk_frozen BK194.out 0
    have hfz19_1 := blk_frozen BK194.out 1
    have hfz19_2 := blk_frozen BK194.out 2
    have hfz19_3 := blk_frozen BK194.out 3
    have hfz19_4 := blk_frozen BK194.out 4
    have hcz20_0 : wr.cell? ⟨gb193, 0, none⟩ = some (.int .i64 0) := (blk_cell BK193.out 0).trans rfl
    have hcz20_1 : wr.cell? ⟨gb193, 1, none⟩ = some (.int .i64 0) := (blk_cell BK193.out 1).trans rfl
    have hcz20_2 : wr.cell? ⟨gb193, 2, none⟩ = some (.int .i64 0) := (blk_cell BK193.out 2).trans rfl
    have hcz20_3 : wr.cell? ⟨gb193, 3, none⟩ = some (.slice none 0 0) := (blk_cell BK193.out 3).trans rfl
    have hcz20_4 : wr.cell? ⟨gb193, 4, none⟩ = some (.slice none 0 0) := (blk_cell BK193.out 4).trans rfl
    have hfz20_0 := blk_frozen BK193.out 0
    have hfz20_1 := blk_frozen BK193.out 1
    have hfz20_2 := blk_frozen BK193.out 2
    have hfz20_3 := blk_frozen BK193.out 3
    have hfz20_4 := blk_frozen BK193.out 4
    obtain ⟨Ao21, co21, eo21⟩ := Kd.R_slice HO_195003.out
    subst eo21
    obtain ⟨Ao22, co22, eo22⟩ := Kd.R_slice HO_195004.out
    subst eo22
    go_wp2
    refine bodyPost_ret (results_cell_row rfl _ _ gb193 24 #[.int .i64 a0, .int .i64 a1, .int .i64 1, .slice Ao21 x195003_1.length co21, .slice Ao22 x195004_1.length co22] (0, 0) _ rfl (by (with_reducible repeat (first | refine blk_drewN ?_ _ | refine blk_drew ?_ | refine blk_alloc ?_ _)); refine blk_put (cs := #[.int .i64 a0, .int .i64 a1, .int .i64 1, .slice Ao21 x195003_1.length co21, .slice none 0 0]) ?_ 4 _ rfl; (with_reducible repeat (first | refine blk_drewN ?_ _ | refine blk_drew ?_ | refine blk_alloc ?_ _)); refine blk_put (cs := #[.int .i64 a0, .int .i64 a1, .int .i64 1, .slice none 0 0, .slice none 0 0]) ?_ 3 _ rfl; (with_reducible repeat (first | refine blk_drewN ?_ _ | refine blk_drew ?_ | refine blk_alloc ?_ _)); refine blk_put (cs := #[.int .i64 a0, .int .i64 a1, .int .i64 0, .slice none 0 0, .slice none 0 0]) ?_ 2 _ rfl; (with_reducible repeat (first | refine blk_drewN ?_ _ | refine blk_drew ?_ | refine blk_alloc ?_ _)); refine blk_put (cs := #[.int .i64 a0, .int .i64 0, .int .i64 0, .slice none 0 0, .slice none 0 0]) ?_ 1 _ rfl; (with_reducible repeat (first | refine blk_drewN ?_ _ | refine blk_drew ?_ | refine blk_alloc ?_ _)); refine blk_put (cs := #[.int .i64 0, .int .i64 0, .int .i64 0, .slice none 0 0, .slice none 0 0]) ?_ 0 _ rfl; (with_reducible repeat (first | refine blk_drewN ?_ _ | refine blk_drew ?_ | refine blk_alloc ?_ _)); exact BK193.out) Try.underlying24 rfl (by kernel_rfl)) rfl ?_
    exact ⟨_, _, by first | rfl | (simp [errW_none, errW_some] <;> rfl) | (simp [*, errW_none, errW_some] <;> rfl), by (with_reducible repeat (first | apply Kd.R_alloc | apply Kd.R_drewN | apply Kd.R_drew)); exact Kd.R_mono (Kd.R_far (p := ⟨gb193, 4, none⟩) (Kd.R_far (p := ⟨gb193, 3, none⟩) (Kd.R_far (p := ⟨gb193, 2, none⟩) (Kd.R_far (p := ⟨gb193, 1, none⟩) (Kd.R_far (p := ⟨gb193, 0, none⟩) (Kd.R_types HO_195003.out BK193.out (by decide)) (fun _ hk => hk.2) (.int .i64 a0)) (fun _ hk => hk.2) (.int .i64 a1)) (fun _ hk => hk.2) (.int .i64 1)) (fun _ hk => hk.2) (.slice Ao21 x195003_1.length co21)) (fun _ hk => hk.2) (.slice Ao22 x195004_1.length co22)) (fun _ hk => hk.1), by (with_reducible repeat (first | apply Kd.R_alloc | apply Kd.R_drewN | apply Kd.R_drew)); exact Kd.R_mono (Kd.R_far (p := ⟨gb193, 4, none⟩) (Kd.R_far (p := ⟨gb193, 3, none⟩) (Kd.R_far (p := ⟨gb193, 2, none⟩) (Kd.R_far (p := ⟨gb193, 1, none⟩) (Kd.R_far (p := ⟨gb193, 0, none⟩) (Kd.R_types HO_195004.out BK193.out (by decide)) (fun _ hk => hk.2) (.int .i64 a0)) (fun _ hk => hk.2) (.int .i64 a1)) (fun _ hk => hk.2) (.int .i64 1)) (fun _ hk => hk.2) (.slice Ao21 x195003_1.length co21)) (fun _ hk => hk.2) (.slice Ao22 x195004_1.length co22)) (fun _ hk => hk.1), by repeat (first | (with_reducible first | exact HB.out | apply below_alloc | apply pw_below_drewN | apply below_drew1 | refine below_set ?_ GE193.out | refine below_set ?_ GE194.out) | exact HB.out)⟩
end Go.Proofs.Ytogmjilaiopjmaa.P
end
