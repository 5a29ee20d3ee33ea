/- Lemmas for the row of this claim: contracts of the functions that it reaches, and plain laws about numbers and lists. -/
import Derived.Test.YtogmjilaiopjmaaMore7
import Derived.WalkSpells
set_option linter.unusedVariables false
set_option linter.unusedSimpArgs false
section
namespace Go.Proofs.Ytogmjilaiopjmaa.P
open Go.RowKit Go.Proofs.YtogmjilaiopjmaaW.PrintWords Go.Proofs.YtogmjilaiopjmaaW.PrintLast Go.Proofs.YtogmjilaiopjmaaW.PrintMore
def slices_Clone_bool_bool.f (l : List Bool) : Option (List Bool) := if l.length ≤ 1000000 then some l else none
theorem none_empty {α : Type} {d : Kd α} {w : World} {n : Nat} {l : List α} (h : Kd.C d w none n l) : n = 0 := by
 rcases Nat.eq_zero_or_pos n with h0 | h0
 ·exact h0
 ·obtain ⟨ad, e, _⟩ := h.2.2 h0
  cases e
set_option maxHeartbeats 1000000 in
set_option maxRecDepth 100000 in
theorem slices_Clone_bool_bool.calls (A0 : Option Addr) (c0 : Nat) (l0 : List Bool) (r : List Bool) (w : World) (hr0 : Kd.C Kd.bool w A0 l0.length l0) (hc0 : l0.length ≤ c0) (h : slices_Clone_bool_bool.f l0 = some r) :
  Calls Try.prog 66 #[.slice A0 l0.length c0] w fun e w' => ∃ v0_ : Value, e = .returned (v0_) ∧ Kd.R Kd.bool 4 w' w.heap.size (fun _ => True) v0_ r ∧ Below w.heap.size w w' := by
 unfold slices_Clone_bool_bool.f at h
 have hl : l0.length ≤ 1000000 := by
  by_cases e : l0.length ≤ 1000000
  ·exact e
  ·rw [if_neg e] at h; cases h
 rw [if_pos hl] at h; obtain rfl := Option.some.inj h; clear h; have heq := fun (W : World) => Lib.run_eql_slice_nil (P := Try.prog) W 25 4 A0 l0.length c0 0 0 Try.underlying25
 cases A0 with
 | none =>
  have HL0 := ak (none_empty hr0); have HL := ak (List.eq_nil_of_length_eq_zero HL0.1); clear hr0 hc0 hl
  go_enter Try.func66, Try.ntmps66
  go_wp2
  go_ret
  exact ⟨_, rfl, by rw [HL.1]; exact Kd.R_nil _ _ _ _ _, Below.refl _ _⟩
 | some ad =>
  have HR0 := ak hr0; have HC0 := ak hc0; have HL := ak hl; clear hr0 hc0 hl
  go_enter Try.func66, Try.ntmps66
  go_wp2_with (first | ((with_reducible refine gate_dst (N := 5) rfl ?_); refine Kd.R_lit Kd.bool (w0 := w) w.heap.size 4 ?hg (N := 5) ?hd (xs := ([] : List Bool)) (inner := []) (ok := fun _ => True) (okp := fun _ => True) ?hr ?hp (fun _ hk => hk) trivial (Below.refl _ _) (Nat.le_refl _) (by simp) ?_; (case hd => rfl); (case hg => rfl); (case hr => first | (go_simp; done) | (go_simp; rfl)); (case hp => exact (Reps.none _ _)); intro v5 w5 ho hb hg hat; have HO := ak ho; have HB := ak hb; clear ho hb hg hat) | (at_builtin; refine Kd.R_append_row Value.bool false (h1 := fun _ => rfl) (w0 := w) w.heap.size rfl _ _ 25 4 (.bool false) 1 rfl Try.underlying25 info4 rfl (by decide) v5 [] l0 (some ad) l0.length c0 (fun _ => True) rfl rfl (fun _ _ => trivial) HO.1 (Kd.C_below HR0.1 HB.1) HB.1 HB.1.size (by have := HL.1; simp; omega) ?_; intro v7 w7 ho hb hg hat; have HO7 := ak ho; have HB7 := ak hb; clear ho hb hg hat))
  go_ret
  exact ⟨_, rfl, HO7.1, HB7.1⟩
set_option maxHeartbeats 2000000 in
set_option maxRecDepth 100000 in
theorem do_range (A : Option Addr) (c : Nat) (l : List Bool) (t p q : Int) (w : World) (hl : l.length ≤ 1000000) (h : p < 0 ∨ (l.length : Int) ≤ p ∨ q < 0 ∨ (l.length : Int) ≤ q) :
  Calls Try.prog 30 #[.agg #[.slice A l.length c, .int .i64 t], .agg #[.int .i64 p, .int .i64 q]] w fun e w' => ∃ v0_ : Value, e = .returned (.tuple #[.agg #[v0_, .int .i64 0], .int .i64 3]) ∧ Kd.R Kd.bool 4 w' w.heap.size (fun _ => True) v0_ [] ∧ Below w.heap.size w w' := by
 have hu27 := Try.underlying27; have hu51 := Try.underlying51; have HB := ak (Below.refl w.heap.size w); have HH := ak h; have HLL := ak hl; clear h hl
 go_enter Try.func30, Try.ntmps30
 go_upto_region 1 with (first | ((with_reducible refine gate_dst (N := 2) rfl ?_); refine box_event ?hg (N := 2) ?hd (cs := #[.slice A l.length c, .int .i64 t]) (t := 27) ?hr ?_; (case hd => rfl); (case hg => rfl); (case hr => first | (go_simp; done) | (go_simp; rfl)); intro g2 hg w2 hbox hb; have GE2 := ak (show w.heap.size ≤ g2 by have := HB.1.size; omega); have n_HB := ak (below_step HB.1 hb); clear HB; have HB := n_HB; clear n_HB; have BK2 := ak hbox; clear hbox hb hg) | ((with_reducible refine gate_dst (N := 3) rfl ?_); refine box_event ?hg (N := 3) ?hd (cs := #[.int .i64 p, .int .i64 q]) (t := 51) ?hr ?_; (case hd => rfl); (case hg => rfl); (case hr => first | (go_simp; done) | (go_simp; rfl)); intro g3 hg w3 hbox hb; have GE3 := ak (show w.heap.size ≤ g3 by have := HB.1.size; omega); have NE3_2 := ak (show g3 ≠ g2 by have := blk_lt BK2.1; omega); have n_BK2 := ak (blk_below BK2.1 hb); have n_HB := ak (below_step HB.1 hb); clear BK2; clear HB; have BK2 := n_BK2; have HB := n_HB; clear n_BK2 n_HB; have BK3 := ak hbox; clear hbox hb hg) | ((with_reducible refine gate_dst (N := 4) rfl ?_); refine box_event ?hg (N := 4) ?hd (cs := #[.slice none 0 0, .int .i64 0]) (t := 27) ?hr ?_; (case hd => rfl); (case hg => rfl); (case hr => first | (go_simp; done) | (go_simp; rfl)); intro g4 hg w4 hbox hb; have GE4 := ak (show w.heap.size ≤ g4 by have := HB.1.size; omega); have NE4_2 := ak (show g4 ≠ g2 by have := blk_lt BK2.1; omega); have NE4_3 := ak (show g4 ≠ g3 by have := blk_lt BK3.1; omega); have n_BK2 := ak (blk_below BK2.1 hb); have n_BK3 := ak (blk_below BK3.1 hb); have n_HB := ak (below_step HB.1 hb); clear BK2; clear BK3; clear HB; have BK2 := n_BK2; have BK3 := n_BK3; have HB := n_HB; clear n_BK2 n_BK3 n_HB; have BK4 := ak hbox; clear hbox hb hg))
 have e20 := blk_cell BK2.1 0; have e21 := blk_cell BK2.1 1; have f20 := blk_frozen BK2.1 0; have f21 := blk_frozen BK2.1 1; have e30 := blk_cell BK3.1 0; have e31 := blk_cell BK3.1 1; have e40 := blk_cell BK4.1 0; have e41 := blk_cell BK4.1 1; have f40 := blk_frozen BK4.1 0; have f41 := blk_frozen BK4.1 1
 try simp at e20 e21 e30 e31 e40 e41
 by_cases h1 : p < 0
 ·have x1 : decide (p < 0) = true := decide_eq_true h1; clear h1
  go_wp2
  refine bodyPost_ret (results_ct rfl _ _ g4 27 #[.slice none 0 0, .int .i64 0] (0, 0) _ rfl (by refine blk_put (cs := #[.slice none 0 0, .int .i64 0]) ?_ 1 _ rfl; refine blk_put (cs := #[.slice none 0 0, .int .i64 0]) ?_ 0 _ rfl; exact BK4.1) Try.underlying27 rfl (by kernel_rfl)) rfl ?_; exact ⟨_, rfl, Kd.R_nil _ _ _ _ _, below_set (below_set HB.1 GE4.1) GE4.1⟩
 have x1 : decide (p < 0) = false := decide_eq_false h1
 by_cases h2 : (l.length : Int) ≤ p
 ·have x2 : decide (p ≥ (l.length : Int)) = true := decide_eq_true h2; clear h1 h2
  go_wp2
  refine bodyPost_ret (results_ct rfl _ _ g4 27 #[.slice none 0 0, .int .i64 0] (0, 0) _ rfl (by refine blk_put (cs := #[.slice none 0 0, .int .i64 0]) ?_ 1 _ rfl; refine blk_put (cs := #[.slice none 0 0, .int .i64 0]) ?_ 0 _ rfl; exact BK4.1) Try.underlying27 rfl (by kernel_rfl)) rfl ?_; exact ⟨_, rfl, Kd.R_nil _ _ _ _ _, below_set (below_set HB.1 GE4.1) GE4.1⟩
 have x2 : decide (p ≥ (l.length : Int)) = false := decide_eq_false h2
 by_cases h3 : q < 0
 ·have x3 : decide (q < 0) = true := decide_eq_true h3; clear h1 h2 h3
  go_wp2
  refine bodyPost_ret (results_ct rfl _ _ g4 27 #[.slice none 0 0, .int .i64 0] (0, 0) _ rfl (by refine blk_put (cs := #[.slice none 0 0, .int .i64 0]) ?_ 1 _ rfl; refine blk_put (cs := #[.slice none 0 0, .int .i64 0]) ?_ 0 _ rfl; exact BK4.1) Try.underlying27 rfl (by kernel_rfl)) rfl ?_; exact ⟨_, rfl, Kd.R_nil _ _ _ _ _, below_set (below_set HB.1 GE4.1) GE4.1⟩
 have x3 : decide (q < 0) = false := decide_eq_false h3; have x4 : decide (q ≥ (l.length : Int)) = true := decide_eq_true (by have := HH.1; omega); clear h1 h2 h3
 go_wp2
 refine bodyPost_ret (results_ct rfl _ _ g4 27 #[.slice none 0 0, .int .i64 0] (0, 0) _ rfl (by refine blk_put (cs := #[.slice none 0 0, .int .i64 0]) ?_ 1 _ rfl; refine blk_put (cs := #[.slice none 0 0, .int .i64 0]) ?_ 0 _ rfl; exact BK4.1) Try.underlying27 rfl (by kernel_rfl)) rfl ?_; exact ⟨_, rfl, Kd.R_nil _ _ _ _ _, below_set (below_set HB.1 GE4.1) GE4.1⟩
set_option maxHeartbeats 2000000 in
set_option maxRecDepth 100000 in
theorem do_place (A : Option Addr) (c : Nat) (l : List Bool) (t : Int) (p q : Nat) (w : World) (hl : l.length ≤ 1000000) (hp : p < l.length) (hq : q < l.length) (hc : l.length ≤ c) (hr : Kd.C Kd.bool w A l.length l) (h : l.getD p false = false ∨ l.getD q false = true) :
  Calls Try.prog 30 #[.agg #[.slice A l.length c, .int .i64 t], .agg #[.int .i64 (p : Int), .int .i64 (q : Int)]] w fun e w' => ∃ v0_ : Value, e = .returned (.tuple #[.agg #[v0_, .int .i64 0], .int .i64 13]) ∧ Kd.R Kd.bool 4 w' w.heap.size (fun _ => True) v0_ [] ∧ Below w.heap.size w w' := by
 have hu27 := Try.underlying27; have hu51 := Try.underlying51; have HB := ak (Below.refl w.heap.size w); have HLL := ak hl; have HP := ak hp; have HQ := ak hq; have HC := ak hc; have HR := ak hr; obtain ⟨ad, rfl, hcell⟩ := bool_cells HR.1 (by omega); have HCELL := ak hcell
 have y1 : (p : Int) < (l.length : Int) := by omega
 have y2 : (q : Int) < (l.length : Int) := by omega
 have x1 : decide ((p : Int) < 0) = false := decide_eq_false (by omega); have x2 : decide ((p : Int) ≥ (l.length : Int)) = false := decide_eq_false (by omega); have x2n : decide (l.length ≤ p) = false := decide_eq_false (by omega); have x3 : decide ((q : Int) < 0) = false := decide_eq_false (by omega); have x4 : decide ((q : Int) ≥ (l.length : Int)) = false := decide_eq_false (by omega); have x4n : decide (l.length ≤ q) = false := decide_eq_false (by omega); clear hl hp hq hc hr hcell; have HH := ak h; clear h
 go_enter Try.func30, Try.ntmps30
 go_upto_region 1 with (first | ((with_reducible refine gate_dst (N := 2) rfl ?_); refine box_event ?hg (N := 2) ?hd (cs := #[.slice (some ad) l.length c, .int .i64 t]) (t := 27) ?hr ?_; (case hd => rfl); (case hg => rfl); (case hr => first | (go_simp; done) | (go_simp; rfl)); intro g2 hg w2 hbox hb; have GE2 := ak (show w.heap.size ≤ g2 by have := HB.1.size; omega); have n_HB := ak (below_step HB.1 hb); clear HB; have HB := n_HB; clear n_HB; have BK2 := ak hbox; clear hbox hb hg) | ((with_reducible refine gate_dst (N := 3) rfl ?_); refine box_event ?hg (N := 3) ?hd (cs := #[.int .i64 (p : Int), .int .i64 (q : Int)]) (t := 51) ?hr ?_; (case hd => rfl); (case hg => rfl); (case hr => first | (go_simp; done) | (go_simp; rfl)); intro g3 hg w3 hbox hb; have GE3 := ak (show w.heap.size ≤ g3 by have := HB.1.size; omega); have NE3_2 := ak (show g3 ≠ g2 by have := blk_lt BK2.1; omega); have n_BK2 := ak (blk_below BK2.1 hb); have n_HB := ak (below_step HB.1 hb); clear BK2; clear HB; have BK2 := n_BK2; have HB := n_HB; clear n_BK2 n_HB; have BK3 := ak hbox; clear hbox hb hg) | ((with_reducible refine gate_dst (N := 4) rfl ?_); refine box_event ?hg (N := 4) ?hd (cs := #[.slice none 0 0, .int .i64 0]) (t := 27) ?hr ?_; (case hd => rfl); (case hg => rfl); (case hr => first | (go_simp; done) | (go_simp; rfl)); intro g4 hg w4 hbox hb; have GE4 := ak (show w.heap.size ≤ g4 by have := HB.1.size; omega); have NE4_2 := ak (show g4 ≠ g2 by have := blk_lt BK2.1; omega); have NE4_3 := ak (show g4 ≠ g3 by have := blk_lt BK3.1; omega); have n_BK2 := ak (blk_below BK2.1 hb); have n_BK3 := ak (blk_below BK3.1 hb); have n_HB := ak (below_step HB.1 hb); clear BK2; clear BK3; clear HB; have BK2 := n_BK2; have BK3 := n_BK3; have HB := n_HB; clear n_BK2 n_BK3 n_HB; have BK4 := ak hbox; clear hbox hb hg))
 have e20 := blk_cell BK2.1 0; have e21 := blk_cell BK2.1 1; have f20 := blk_frozen BK2.1 0; have f21 := blk_frozen BK2.1 1; have e30 := blk_cell BK3.1 0; have e31 := blk_cell BK3.1 1; have e40 := blk_cell BK4.1 0; have e41 := blk_cell BK4.1 1; have f40 := blk_frozen BK4.1 0; have f41 := blk_frozen BK4.1 1
 try simp at e20 e21 e30 e31 e40 e41
 have cp := (HB.1.cell (World.block_lt_of_cell? w _ (HCELL.1 p HP.1))).trans (HCELL.1 p HP.1); have cq := (HB.1.cell (World.block_lt_of_cell? w _ (HCELL.1 q HQ.1))).trans (HCELL.1 q HQ.1)
 cases hpv : l.getD p false with
 | false =>
  rw [hpv] at cp; clear hpv
  go_wp2
  refine bodyPost_ret (results_ct rfl _ _ g4 27 #[.slice none 0 0, .int .i64 0] (0, 0) _ rfl (by refine blk_put (cs := #[.slice none 0 0, .int .i64 0]) ?_ 1 _ rfl; refine blk_put (cs := #[.slice none 0 0, .int .i64 0]) ?_ 0 _ rfl; exact BK4.1) Try.underlying27 rfl (by kernel_rfl)) rfl ?_; exact ⟨_, rfl, Kd.R_nil _ _ _ _ _, below_set (below_set HB.1 GE4.1) GE4.1⟩
 | true =>
  rw [hpv] at cp
  have hqv : l.getD q false = true := by
   rcases HH.1 with e | e
   ·rw [hpv] at e; cases e
   ·exact e
  rw [hqv] at cq; clear hpv hqv
  go_wp2
  refine bodyPost_ret (results_ct rfl _ _ g4 27 #[.slice none 0 0, .int .i64 0] (0, 0) _ rfl (by refine blk_put (cs := #[.slice none 0 0, .int .i64 0]) ?_ 1 _ rfl; refine blk_put (cs := #[.slice none 0 0, .int .i64 0]) ?_ 0 _ rfl; exact BK4.1) Try.underlying27 rfl (by kernel_rfl)) rfl ?_; exact ⟨_, rfl, Kd.R_nil _ _ _ _ _, below_set (below_set HB.1 GE4.1) GE4.1⟩
set_option maxHeartbeats 4000000 in
set_option maxRecDepth 100000 in
theorem do_ok (A : Option Addr) (c : Nat) (l : List Bool) (t : Int) (p q : Nat) (w : World) (hl : l.length ≤ 1000000) (hp : p < l.length) (hq : q < l.length) (hc : l.length ≤ c) (hr : Kd.C Kd.bool w A l.length l) (t2 : Int) (h3 : t2 = if t = (p : Int) then (q : Int) else t) (h1 : l.getD p false = true) (h2 : l.getD q false = false) :
  Calls Try.prog 30 #[.agg #[.slice A l.length c, .int .i64 t], .agg #[.int .i64 (p : Int), .int .i64 (q : Int)]] w fun e w' => ∃ v0_ : Value, e = .returned (.tuple #[.agg #[v0_, .int .i64 t2], .int .i64 0]) ∧ Kd.R Kd.bool 4 w' w.heap.size (fun _ => True) v0_ ((l.set p false).set q true) ∧ Below w.heap.size w w' := by
 have hu27 := Try.underlying27; have hu51 := Try.underlying51; have HB := ak (Below.refl w.heap.size w); have HLL := ak hl; have HP := ak hp; have HQ := ak hq; have HC := ak hc; have HR := ak hr; obtain ⟨ad, rfl, hcell⟩ := bool_cells HR.1 (by omega); have HCELL := ak hcell
 have y1 : (p : Int) < (l.length : Int) := by omega
 have y2 : (q : Int) < (l.length : Int) := by omega
 have x1 : decide ((p : Int) < 0) = false := decide_eq_false (by omega); have x2 : decide ((p : Int) ≥ (l.length : Int)) = false := decide_eq_false (by omega); have x2n : decide (l.length ≤ p) = false := decide_eq_false (by omega); have x3 : decide ((q : Int) < 0) = false := decide_eq_false (by omega); have x4 : decide ((q : Int) ≥ (l.length : Int)) = false := decide_eq_false (by omega); have x4n : decide (l.length ≤ q) = false := decide_eq_false (by omega); clear hl hp hq hc hr hcell; have H3 := ak h3; clear h3
 have hne : p ≠ q := fun e => by rw [e, h2] at h1; cases h1
 have HNE := ak hne; have HF := ak (show slices_Clone_bool_bool.f l = some l by unfold slices_Clone_bool_bool.f; rw [if_pos HLL.1]); clear hne
 go_enter Try.func30, Try.ntmps30
 go_upto_region 1 with (first | ((with_reducible refine gate_dst (N := 2) rfl ?_); refine box_event ?hg (N := 2) ?hd (cs := #[.slice (some ad) l.length c, .int .i64 t]) (t := 27) ?hr ?_; (case hd => rfl); (case hg => rfl); (case hr => first | (go_simp; done) | (go_simp; rfl)); intro g2 hg w2 hbox hb; have GE2 := ak (show w.heap.size ≤ g2 by have := HB.1.size; omega); have n_HB := ak (below_step HB.1 hb); clear HB; have HB := n_HB; clear n_HB; have BK2 := ak hbox; clear hbox hb hg) | ((with_reducible refine gate_dst (N := 3) rfl ?_); refine box_event ?hg (N := 3) ?hd (cs := #[.int .i64 (p : Int), .int .i64 (q : Int)]) (t := 51) ?hr ?_; (case hd => rfl); (case hg => rfl); (case hr => first | (go_simp; done) | (go_simp; rfl)); intro g3 hg w3 hbox hb; have GE3 := ak (show w.heap.size ≤ g3 by have := HB.1.size; omega); have NE3_2 := ak (show g3 ≠ g2 by have := blk_lt BK2.1; omega); have n_BK2 := ak (blk_below BK2.1 hb); have n_HB := ak (below_step HB.1 hb); clear BK2; clear HB; have BK2 := n_BK2; have HB := n_HB; clear n_BK2 n_HB; have BK3 := ak hbox; clear hbox hb hg) | ((with_reducible refine gate_dst (N := 4) rfl ?_); refine box_event ?hg (N := 4) ?hd (cs := #[.slice none 0 0, .int .i64 0]) (t := 27) ?hr ?_; (case hd => rfl); (case hg => rfl); (case hr => first | (go_simp; done) | (go_simp; rfl)); intro g4 hg w4 hbox hb; have GE4 := ak (show w.heap.size ≤ g4 by have := HB.1.size; omega); have NE4_2 := ak (show g4 ≠ g2 by have := blk_lt BK2.1; omega); have NE4_3 := ak (show g4 ≠ g3 by have := blk_lt BK3.1; omega); have n_BK2 := ak (blk_below BK2.1 hb); have n_BK3 := ak (blk_below BK3.1 hb); have n_HB := ak (below_step HB.1 hb); clear BK2; clear BK3; clear HB; have BK2 := n_BK2; have BK3 := n_BK3; have HB := n_HB; clear n_BK2 n_BK3 n_HB; have BK4 := ak hbox; clear hbox hb hg))
 have e20 := blk_cell BK2.1 0; have e21 := blk_cell BK2.1 1; have f20 := blk_frozen BK2.1 0; have f21 := blk_frozen BK2.1 1; have e30 := blk_cell BK3.1 0; have e31 := blk_cell BK3.1 1; have e40 := blk_cell BK4.1 0; have e41 := blk_cell BK4.1 1; have f40 := blk_frozen BK4.1 0; have f41 := blk_frozen BK4.1 1
 try simp at e20 e21 e30 e31 e40 e41
 have cp := (HB.1.cell (World.block_lt_of_cell? w _ (HCELL.1 p HP.1))).trans (HCELL.1 p HP.1); have cq := (HB.1.cell (World.block_lt_of_cell? w _ (HCELL.1 q HQ.1))).trans (HCELL.1 q HQ.1); rw [h1] at cp; rw [h2] at cq
 go_upto_region 7 with ((go_at_call 66; refine (slices_Clone_bool_bool.calls _ _ l _ _ (Kd.C_below HR.1 HB.1) HC.1 HF.1).mono ?_; rintro e w66_ ⟨v5, rfl, ho, hb⟩; have HB0 := ak (below_size HB.1); have n_BK2 := ak (blk_below BK2.1 hb); have n_BK3 := ak (blk_below BK3.1 hb); have n_BK4 := ak (blk_below BK4.1 hb); have n_HB := ak (below_step HB.1 hb); clear BK2; clear BK3; clear BK4; clear HB; have BK2 := n_BK2; have BK3 := n_BK3; have BK4 := n_BK4; have HB := n_HB; clear n_BK2 n_BK3 n_BK4 n_HB; obtain ⟨g5, cap5, rfl, hg5⟩ := R_form ho (by have := HP.1; omega); have HO := ak ho; have HG5 := ak hg5; clear ho hg5; clear e20 e21 f20 f21 e30 e31 e40 e41 f40 f41 cp cq; have f20 := blk_frozen BK2.1 0; have e20 := blk_cell BK2.1 0; clear hb))
 have HO1 := ak (Kd.R_set (Kd.R_lower HO.1 HB0.1) BK2.1 (by decide) 0 (.slice (some ⟨g5, 0, none⟩) l.length cap5)); have N52 := ak (show g5 ≠ g2 from fun e => Kd.R_ne HO.1 BK2.1 (by decide) (by simp [Value.ownBlock, e])); have N53 := ak (show g5 ≠ g3 from fun e => Kd.R_ne HO.1 BK3.1 (by decide) (by simp [Value.ownBlock, e])); have N54 := ak (show g5 ≠ g4 from fun e => Kd.R_ne HO.1 BK4.1 (by decide) (by simp [Value.ownBlock, e])); have n_BK3 := ak (blk_far (p := ⟨g2, 0, none⟩) BK3.1 NE3_2.1 (.slice (some ⟨g5, 0, none⟩) l.length cap5)); have n_BK4 := ak (blk_far (p := ⟨g2, 0, none⟩) BK4.1 NE4_2.1 (.slice (some ⟨g5, 0, none⟩) l.length cap5)); have n_BK2 := ak (blk_put (cs := #[.slice (some ad) l.length c, .int .i64 t]) BK2.1 0 (.slice (some ⟨g5, 0, none⟩) l.length cap5) rfl); have n_HB := ak (below_set (j := 0) (v := .slice (some ⟨g5, 0, none⟩) l.length cap5) HB.1 GE2.1); have HBX := HB0; clear e20 f20 HO BK2 BK3 BK4 HB HB0; have BK2 := n_BK2; have BK3 := n_BK3; have BK4 := n_BK4; have HB := n_HB; clear n_BK2 n_BK3 n_BK4 n_HB; generalize w66_.setCell ⟨g2, 0, none⟩ (.slice (some ⟨g5, 0, none⟩) l.length cap5) = W at HO1 BK2 BK3 BK4 HB ⊢; have e20 := blk_cell BK2.1 0; have e30 := blk_cell BK3.1 0; have e31 := blk_cell BK3.1 1
 try simp at e20 e30 e31
 obtain ⟨cp, fp⟩ := Kd.R_cell false HO1.1 (p : Int) (by omega) (by omega); obtain ⟨cq, fq⟩ := Kd.R_cell false HO1.1 (q : Int) (by omega) (by omega); rw [Int.toNat_natCast] at cp fp cq fq; have kpq := fun (v : Value) => (cell_off_ne W g5 p q v (Ne.symm HNE.1)).trans cq; have kqp := fun (v : Value) => (cell_off_ne W g5 q p v HNE.1).trans cp; have HG6 := ak (show w.heap.size ≤ g5 from Nat.le_trans HBX.1 HG5.1); have n52 := N52.1; have n53 := N53.1
 go_cut [] (fun wc => Aside0 (Kd.R Kd.bool 4 wc w.heap.size (fun _ => True) (.slice (some ⟨g5, 0, none⟩) l.length cap5) ((l.set p false).set q true)) ∧ Aside0 (wc.heap[g2]? = some (.cells #[.slice (some ⟨g5, 0, none⟩) l.length cap5, .int .i64 t] 27 (0, 0))) ∧ Aside0 (wc.heap[g3]? = some (.cells #[.int .i64 (p : Int), .int .i64 (q : Int)] 51 (0, 0))) ∧ Aside0 (wc.heap[g4]? = some (.cells #[.slice none 0 0, .int .i64 0] 27 (0, 0))) ∧ Aside0 (Below w.heap.size w wc))
 case first =>
  go_region_held3 (fun w' => w'.cell? ⟨g2, 0, none⟩ = some (.slice (some ⟨g5, 0, none⟩) l.length cap5) ∧ w'.cell? ⟨g3, 0, none⟩ = some (.int .i64 (p : Int)) ∧ w'.cell? ⟨g3, 1, none⟩ = some (.int .i64 (q : Int))) (go_keep) (fail)
  all_goals go_wp2
  go_meet
  case rel =>
   have h1 := Kd.R_putn HO1.1 (p : Int) false; have h2 := Kd.R_putn h1 (q : Int) true; rw [Int.toNat_natCast, Int.toNat_natCast] at h2; exact ⟨⟨h2⟩, ⟨blk_far (p := ⟨g5, q, none⟩) (blk_far (p := ⟨g5, p, none⟩) BK2.1 (Ne.symm n52) _) (Ne.symm n52) _⟩, ⟨blk_far (p := ⟨g5, q, none⟩) (blk_far (p := ⟨g5, p, none⟩) BK3.1 (Ne.symm n53) _) (Ne.symm n53) _⟩, ⟨blk_far (p := ⟨g5, q, none⟩) (blk_far (p := ⟨g5, p, none⟩) BK4.1 (Ne.symm N54.1) _) (Ne.symm N54.1) _⟩, ⟨below_drew1 (below_set (below_set HB.1 HG6.1) HG6.1)⟩⟩
 case rest =>
  clear e20 e30 e31 cp fp cq fq kpq kqp n52 n53 HO1 BK2 BK3 BK4 HB; obtain ⟨HO1, BK2, BK3, BK4, HB⟩ := hcut; have e20 := blk_cell BK2.1 0; have e21 := blk_cell BK2.1 1; have f21 := blk_frozen BK2.1 1; have e30 := blk_cell BK3.1 0; have e31 := blk_cell BK3.1 1; have e40 := blk_cell BK4.1 0; have e41 := blk_cell BK4.1 1; have f40 := blk_frozen BK4.1 0; have f41 := blk_frozen BK4.1 1
  try simp at e20 e21 e30 e31 e40 e41
  have NE42 := NE4_2.1; have hg42 := ak (show g5 ≠ g4 from N54.1)
  by_cases ht : t = (p : Int)
  ·have z1 : (t == (p : Int)) = true := beq_iff_eq.2 ht; have HT := ak (show t2 = (q : Int) by rw [H3.1, if_pos ht]); clear ht
   go_wp2
   refine bodyPost_ret (results_ct rfl _ _ g4 27 #[.slice (some ⟨g5, 0, none⟩) l.length cap5, .int .i64 (q : Int)] (0, 0) _ rfl (by refine blk_put (cs := #[.slice (some ⟨g5, 0, none⟩) l.length cap5, .int .i64 0]) ?_ 1 _ rfl; refine blk_put (cs := #[.slice none 0 0, .int .i64 0]) ?_ 0 _ rfl; exact blk_far (p := ⟨g2, 1, none⟩) BK4.1 NE42 _) Try.underlying27 rfl (by kernel_rfl)) rfl ?_; exact ⟨.slice (some ⟨g5, 0, none⟩) l.length cap5, by rw [HT.1]; rfl, Kd.R_set (Kd.R_set (Kd.R_set HO1.1 BK2.1 (by decide) 1 _) (blk_far (p := ⟨g2, 1, none⟩) BK4.1 NE42 _) (by decide) 0 _) (blk_set (blk_far (p := ⟨g2, 1, none⟩) BK4.1 NE42 _) 0 _) (by decide) 1 _, below_set (below_set (below_set HB.1 GE2.1) GE4.1) GE4.1⟩
  ·have z1 : (t == (p : Int)) = false := beq_eq_false_iff_ne.2 ht; have HT := ak (show t2 = t by rw [H3.1, if_neg ht]); clear ht
   go_wp2
   refine bodyPost_ret (results_ct rfl _ _ g4 27 #[.slice (some ⟨g5, 0, none⟩) l.length cap5, .int .i64 t] (0, 0) _ rfl (by refine blk_put (cs := #[.slice (some ⟨g5, 0, none⟩) l.length cap5, .int .i64 0]) ?_ 1 _ rfl; refine blk_put (cs := #[.slice none 0 0, .int .i64 0]) ?_ 0 _ rfl; exact BK4.1) Try.underlying27 rfl (by kernel_rfl)) rfl ?_; exact ⟨.slice (some ⟨g5, 0, none⟩) l.length cap5, by rw [HT.1]; rfl, Kd.R_set (Kd.R_set HO1.1 BK4.1 (by decide) 0 _) (blk_set BK4.1 0 _) (by decide) 1 _, below_set (below_set HB.1 GE4.1) GE4.1⟩
def layout_Do.f (l : List Bool) (t p q : Int) : Option (List Bool × Int × Int) :=
 if ¬ l.length ≤ 1000000 then none else if p < 0 ∨ (l.length : Int) ≤ p ∨ q < 0 ∨ (l.length : Int) ≤ q then some ([], 0, 3) else if l.getD p.toNat false = false ∨ l.getD q.toNat false = true then some ([], 0, 13) else some ((l.set p.toNat false).set q.toNat true, if t = p then q else t, 0)
theorem layout_Do.calls (A0_0 : Option Addr) (c0_0 : Nat) (l0_0 : List Bool) (a0_1 : Int) (a1_0 : Int) (a1_1 : Int) (r1 : List Bool) (r2 : Int) (r3 : Int) (w : World) (hr0_0 : Kd.C Kd.bool w A0_0 l0_0.length l0_0) (hc0_0 : l0_0.length ≤ c0_0) (h : layout_Do.f l0_0 a0_1 a1_0 a1_1 = some (r1, r2, r3)) :
  Calls Try.prog 30 #[.agg #[.slice A0_0 l0_0.length c0_0, .int .i64 a0_1], .agg #[.int .i64 a1_0, .int .i64 a1_1]] w fun e w' => ∃ v0_ : Value, e = .returned (.tuple #[.agg #[v0_, .int .i64 r2], .int .i64 r3]) ∧ Kd.R Kd.bool 4 w' w.heap.size (fun _ => True) v0_ r1 ∧ Below w.heap.size w w' := by
 unfold layout_Do.f at h
 by_cases hl : l0_0.length ≤ 1000000
 ·rw [if_neg (not_not_intro hl)] at h
  by_cases h1 : a1_0 < 0 ∨ (l0_0.length : Int) ≤ a1_0 ∨ a1_1 < 0 ∨ (l0_0.length : Int) ≤ a1_1
  ·rw [if_pos h1] at h
   injection h with h
   injection h with e1 h
   injection h with e2 e3
   subst e1 e2 e3; exact do_range A0_0 c0_0 l0_0 a0_1 a1_0 a1_1 w hl h1
  ·rw [if_neg h1] at h; obtain ⟨p, rfl⟩ : ∃ p : Nat, a1_0 = p := ⟨a1_0.toNat, by omega⟩; obtain ⟨q, rfl⟩ : ∃ q : Nat, a1_1 = q := ⟨a1_1.toNat, by omega⟩; rw [Int.toNat_natCast, Int.toNat_natCast] at h
   by_cases h2 : l0_0.getD p false = false ∨ l0_0.getD q false = true
   ·rw [if_pos h2] at h
    injection h with h
    injection h with e1 h
    injection h with e2 e3
    subst e1 e2 e3; exact do_place A0_0 c0_0 l0_0 a0_1 p q w hl (by omega) (by omega) hc0_0 hr0_0 h2
   ·rw [if_neg h2] at h
    injection h with h
    injection h with e1 h
    injection h with e2 e3
    subst e1 e3; exact do_ok A0_0 c0_0 l0_0 a0_1 p q w hl (by omega) (by omega) hc0_0 hr0_0 r2 e2.symm (by cases e : l0_0.getD p false <;> simp_all) (by cases e : l0_0.getD q false <;> simp_all)
 ·rw [if_pos hl] at h
  cases h
end Go.Proofs.Ytogmjilaiopjmaa.P
end
section
namespace Go.Proofs.Ytogmjilaiopjmaa.P
theorem rk_lt_bin : ∀ l : List Bool, rk l < bin l.length (shel l)
 | [] => by simp [rk, shel, bin]
 | true :: bs => by
  have h := rk_lt_bin bs; rw [shel_cons, if_pos rfl, Nat.add_comm, List.length_cons, bin_succ, rk]
  omega
 | false :: bs => by
  have h := rk_lt_bin bs; rw [shel_cons, if_neg (by simp), Nat.zero_add, List.length_cons, rk]
  by_cases h0 : 0 < shel bs
  ·rw [if_pos h0]; obtain ⟨k, hk⟩ : ∃ k, shel bs = k + 1 := ⟨shel bs - 1, by omega⟩; rw [hk] at h ⊢; rw [bin_succ, Nat.add_sub_cancel]
   omega
  ·rw [if_neg h0]
   have e : shel bs = 0 := by omega
   rw [e, bin_zero] at h ⊢
   omega
theorem unr_rk : ∀ l : List Bool, unr l.length (shel l) (rk l) = l
 | [] => rfl
 | true :: bs => by
  have h := unr_rk bs; have hl := rk_lt_bin bs; rw [List.length_cons, shel_cons, if_pos rfl, Nat.add_comm 1, rk, unr_yes (by omega) (by simpa using hl), Nat.add_sub_cancel, h]
 | false :: bs => by
  have h := unr_rk bs; rw [List.length_cons, shel_cons, if_neg (by simp), Nat.zero_add, rk]
  by_cases h0 : 0 < shel bs
  ·rw [if_pos h0, unr_no h0 (by omega), Nat.add_sub_cancel_left, h]
  ·rw [if_neg h0, Nat.zero_add]
   have e : shel bs = 0 := by omega
   rw [e] at h ⊢; rw [unr_none, h]
theorem shel_unr : ∀ m need r, need ≤ m → r < bin m need → shel (unr m need r) = need ∧ rk (unr m need r) = r
 | 0, need, r, h, hr => by
  obtain rfl : need = 0 := by omega
  rw [bin_zero] at hr
  obtain rfl : r = 0 := by omega
  exact ⟨rfl, rfl⟩
 | m + 1, 0, r, _, hr => by
  rw [bin_zero] at hr
  obtain rfl : r = 0 := by omega
  obtain ⟨h1, h2⟩ := shel_unr m 0 0 (by omega) (by rw [bin_zero]; omega); rw [unr_none, shel_cons, rk, h1, h2]
  simp
 | m + 1, need + 1, r, h, hr => by
  rw [bin_succ] at hr
  by_cases hb : r < bin m need
  ·obtain ⟨h1, h2⟩ := shel_unr m need r (by omega) hb; rw [unr_yes (by omega) (by simpa using hb), Nat.add_sub_cancel, shel_cons, rk, h1, h2]
   simp; omega
  ·have hn : need + 1 ≤ m := by
    rcases Nat.lt_or_ge m (need + 1) with hlt | hge
    ·rw [bin_big m (need + 1) hlt] at hr; omega
    ·exact hge
   obtain ⟨h1, h2⟩ := shel_unr m (need + 1) (r - bin m need) hn (by omega); rw [unr_no (by omega) (by simpa using hb), Nat.add_sub_cancel, shel_cons, rk, h1, h2, unr_len]
   simp
   omega
theorem shel_insT : ∀ (t : Nat) (l : List Bool), t ≤ l.length → shel (insT t l) = shel l + 1
 | 0, l, _ => by rw [insT, shel_cons]; simp; omega
 | t + 1, [], h => by simp at h
 | t + 1, b :: l, h => by rw [insT, shel_cons, shel_cons, shel_insT t l (by simpa using h)]; omega
theorem get_insT : ∀ (t : Nat) (l : List Bool), t ≤ l.length → (insT t l).getD t false = true
 | 0, l, _ => rfl
 | t + 1, [], h => by simp at h
 | t + 1, b :: l, h => by rw [insT, List.getD_cons_succ, get_insT t l (by simpa using h)]
theorem oth_insT (t : Nat) : ∀ (i : Nat) (l : List Bool), i ≤ t → t - i ≤ l.length → oth t i (insT (t - i) l) = l
 | i, [], h, h' => by
  obtain rfl : t = i := by simp at h'; omega
  rw [Nat.sub_self, insT, oth, if_pos rfl, oth]
 | i, b :: l, h, h' => by
  by_cases e : i = t
  ·subst e; rw [Nat.sub_self, insT, oth, if_pos rfl, oth_past i (i + 1) _ (by omega)]
  ·rw [show t - i = (t - (i + 1)) + 1 by omega, insT, oth, if_neg e, oth_insT t (i + 1) l (by omega) (by simp at h'; omega)]
theorem insT_oth (t : Nat) : ∀ (i : Nat) (l : List Bool), i ≤ t → l.getD (t - i) false = true → insT (t - i) (oth t i l) = l
 | i, [], h, h' => by simp at h'
 | i, b :: l, h, h' => by
  by_cases e : i = t
  ·subst e
   simp at h'
   rw [Nat.sub_self, oth, if_pos rfl, oth_past i (i + 1) _ (by omega), insT, h']
  ·rw [show t - i = (t - (i + 1)) + 1 by omega, List.getD_cons_succ] at h'; rw [oth, if_neg e, show t - i = (t - (i + 1)) + 1 by omega, insT, insT_oth t (i + 1) l (by omega) h']
theorem bin_rest {n k r : Nat} (hk : 1 ≤ k) (hk2 : k ≤ n) : r % bin (n - 1) (k - 1) < bin (n - 1) (k - 1) := Nat.mod_lt _ (bin_pos _ _ (by omega))
theorem unrL_right {n k r : Nat} (hk : 1 ≤ k) (hk2 : k ≤ n) (hr : r < cntN n k) : shel (unrL n k r) = k ∧ (unrL n k r).getD (unrT n k r) false = true := by
 have ht := unrT_lt hr; obtain ⟨h1, _⟩ := shel_unr (n - 1) (k - 1) _ (by omega) (bin_rest (r := r) hk hk2)
 unfold unrL
 rw [shel_insT _ _ (by rw [unr_len]; omega), h1]; exact ⟨by omega, get_insT _ _ (by rw [unr_len]; omega)⟩
theorem rank_unr {n k r : Nat} (hk : 1 ≤ k) (hk2 : k ≤ n) (hr : r < cntN n k) : rankN (unrL n k r) (unrT n k r) = r := by
 have ht := unrT_lt hr; obtain ⟨_, h2⟩ := shel_unr (n - 1) (k - 1) _ (by omega) (bin_rest (r := r) hk hk2)
 unfold rankN
 rw [(unrL_right hk hk2 hr).1, unrL_len hr]
 have e : oth (unrT n k r) 0 (unrL n k r) = unr (n - 1) (k - 1) (r % bin (n - 1) (k - 1)) := by
  unfold unrL
  exact oth_insT _ 0 _ (by omega) (by rw [unr_len]; omega)
 rw [e, h2]
 unfold unrT
 rw [Nat.mul_comm]; exact Nat.div_add_mod r _
theorem rank_parts {l : List Bool} {t : Nat} (ht : t < l.length) (h : l.getD t false = true) : rk (oth t 0 l) < bin (l.length - 1) (shel l - 1) := by
 have h1 := rk_lt_bin (oth t 0 l); have h2 := oth_len t 0 l (by omega) (by omega); have h3 := oth_shel t 0 l (by omega) (by rwa [Nat.sub_zero]); rw [show (oth t 0 l).length = l.length - 1 by omega, show shel (oth t 0 l) = shel l - 1 by omega] at h1; exact h1
theorem rank_lt {l : List Bool} {t : Nat} (ht : t < l.length) (h : l.getD t false = true) : rankN l t < cntN l.length (shel l) := by
 have h1 := rank_parts ht h
 unfold rankN cntN
 have h2 : (t + 1) * bin (l.length - 1) (shel l - 1) ≤ l.length * bin (l.length - 1) (shel l - 1) := Nat.mul_le_mul_right _ ht; rw [Nat.add_mul, Nat.one_mul] at h2
 omega
theorem unr_rank {l : List Bool} {t : Nat} (ht : t < l.length) (h : l.getD t false = true) : unrT l.length (shel l) (rankN l t) = t ∧ unrL l.length (shel l) (rankN l t) = l := by
 have h1 := rank_parts ht h
 have e1 : unrT l.length (shel l) (rankN l t) = t := by
  unfold unrT rankN
  rw [Nat.mul_comm, Nat.mul_add_div (by omega), Nat.div_eq_of_lt h1, Nat.add_zero]
 refine ⟨e1, ?_⟩
 unfold unrL
 rw [e1]
 have e2 : rankN l t % bin (l.length - 1) (shel l - 1) = rk (oth t 0 l) := by
  unfold rankN
  rw [Nat.mul_comm, Nat.mul_add_mod, Nat.mod_eq_of_lt h1]
 have h2 := oth_len t 0 l (by omega) (by omega); have h3 := oth_shel t 0 l (by omega) (by rwa [Nat.sub_zero]); rw [e2, show l.length - 1 = (oth t 0 l).length by omega, show shel l - 1 = shel (oth t 0 l) by omega, unr_rk]; have := insT_oth t 0 l (by omega) (by rwa [Nat.sub_zero])
 rwa [Nat.sub_zero] at this
theorem shel_pos {l : List Bool} {t : Nat} (h : l.getD t false = true) : 1 ≤ shel l := by
 rw [List.getD_eq_getElem?_getD] at h
 cases hl : l[t]? with
 | none => rw [hl] at h; simp at h
 | some b =>
  rw [hl] at h
  simp at h
  subst h
  unfold shel
  exact List.count_pos_iff.2 (List.mem_of_getElem? hl)
end Go.Proofs.Ytogmjilaiopjmaa.P
end
section
namespace Go.Proofs.Ytogmjilaiopjmaa.P
open Go.RowKit Go.Proofs.YtogmjilaiopjmaaW.PrintWords Go.Proofs.YtogmjilaiopjmaaW.PrintLast Go.Proofs.YtogmjilaiopjmaaW.PrintMore
attribute [local go_sem] max2_int min2_int max_two min_two max_three min_three max_four min_four
mutual
def floor_Right.j0 : Nat → Bool → Int → Int → Int → List Int → List Int → Option (Bool)
 | 0, _, _, _, _, _, _ => none
 | k + 1, x26, x201000, x201001, x201002, x201003, x201004 => if x26 = true then (some false) else ((floor_size.f x201000 x201001 x201002 x201003 x201004).bind fun t201 => (if t201 > 4096 then (floor_Right.j1 k true x201000 x201001 x201002 x201003 x201004) else (if (x201003.length : Int) = t201 then (floor_Right.j1 k ((x201004.length : Int) != t201) x201000 x201001 x201002 x201003 x201004) else (floor_Right.j1 k true x201000 x201001 x201002 x201003 x201004))))
def floor_Right.j1 : Nat → Bool → Int → Int → Int → List Int → List Int → Option (Bool)
 | 0, _, _, _, _, _, _ => none
 | k + 1, x44, x201000, x201001, x201002, x201003, x201004 => if x44 = true then (some false) else (floor_Right.l0 k x201003 (x201003.length : Int) 0 x201000 x201001 x201002 x201003 x201004)
def floor_Right.l0 : Nat → List Int → Int → Int → Int → Int → Int → List Int → List Int → Option (Bool)
 | 0, _, _, _, _, _, _, _, _ => none
 | k + 1, x46, x47, x48, x201000, x201001, x201002, x201003, x201004 => if x48 < x47 then (if 0 ≤ x48 then (if x48 < (x46.length : Int) then (if (rd x46 x48) < 0 then (some false) else (if (rd x46 x48) ≥ 7 then (some false) else (if x48 < (x201004.length : Int) then (if (rd x201004 x48) < 0 then (some false) else (if (rd x201004 x48) > 63 then (some false) else (floor_Right.l0 k x46 x47 (wrap64 (x48 + 1)) x201000 x201001 x201002 x201003 x201004))) else (none)))) else (none)) else (none)) else (some true)
end
def floor_Right.f (k : Nat) (a0_0 : Int) (a0_1 : Int) (a0_2 : Int) (l0_3 : List Int) (l0_4 : List Int) : Option (Bool) := if (mn (mn a0_0 a0_1) a0_2) < 1 then (floor_Right.j0 k true a0_0 a0_1 a0_2 l0_3 l0_4) else (if a0_2 > 4 then (floor_Right.j0 k true a0_0 a0_1 a0_2 l0_3 l0_4) else (floor_Right.j0 k (decide ((mx a0_0 a0_1) > 4096)) a0_0 a0_1 a0_2 l0_3 l0_4))
set_option maxHeartbeats 8000000 in
set_option maxRecDepth 100000 in
theorem floor_Right.calls (k : Nat) (a0_0 : Int) (a0_1 : Int) (a0_2 : Int) (A0_3 : Option Addr) (c0_3 : Nat) (l0_3 : List Int) (A0_4 : Option Addr) (c0_4 : Nat) (l0_4 : List Int) (r : Bool) (w : World) (hr0_3 : Kd.C (Kd.int .i64) w A0_3 l0_3.length l0_3) (hc0_3 : l0_3.length ≤ c0_3) (hr0_4 : Kd.C (Kd.int .i64) w A0_4 l0_4.length l0_4) (hc0_4 : l0_4.length ≤ c0_4) (h : floor_Right.f k a0_0 a0_1 a0_2 l0_3 l0_4 = some r) :
  Calls Try.prog 46 #[.agg #[.int .i64 a0_0, .int .i64 a0_1, .int .i64 a0_2, .slice A0_3 l0_3.length c0_3, .slice A0_4 l0_4.length c0_4]] w fun e w' => e = .returned (.bool r) ∧ Below w.heap.size w w' := by
 have hu24 := Try.underlying24; have HR0_3 := ak hr0_3; have HC0_3 := ak hc0_3; clear hr0_3 hc0_3; have HR0_4 := ak hr0_4; have HC0_4 := ak hc0_4; clear hr0_4 hc0_4; have HB := ak (Below.refl w.heap.size w); have H : (if (mn (mn a0_0 a0_1) a0_2) < 1 then (floor_Right.j0 k true a0_0 a0_1 a0_2 l0_3 l0_4) else (if a0_2 > 4 then (floor_Right.j0 k true a0_0 a0_1 a0_2 l0_3 l0_4) else (floor_Right.j0 k (decide ((mx a0_0 a0_1) > 4096)) a0_0 a0_1 a0_2 l0_3 l0_4))) = some r := h; clear h; have HC2 := ak H; clear H
 go_enter Try.func46, Try.ntmps46
 go_upto_region 1 with (first | ((with_reducible refine gate_dst (N := 1) rfl ?_); (try (refine gate_guard (by rfl) ?_; dsimp only)); refine box_event ?hg (N := 1) ?hd (cs := #[.int .i64 a0_0, .int .i64 a0_1, .int .i64 a0_2, .slice A0_3 l0_3.length c0_3, .slice A0_4 l0_4.length c0_4]) (t := 24) ?hr ?_; (case hd => rfl); (case hg => rfl); (case hr => first | (go_simp; done) | (go_simp; rfl)); intro gb200 hg w3 hbox hb; have n0_ := ak (below_step (hq0_ HB.1) hb); have n1_ := ak (hbox); have n2_ := ak ((by rw [hg]; exact (below_size (hq0_ HB.1)) : w.heap.size ≤ gb200)); have n3_ := ak ((by rw [hg]; exact (below_size (hq0_ HB.1)) : w.heap.size ≤ gb200)); clear HB; have HB := n0_; have BK200 := n1_; have GW200 := n2_; have GE200 := n3_; clear n0_ n1_ n2_ n3_; clear hb hbox hg))
 (try simp only [Act.put, List.setIfInBounds_toArray, List.set_cons_zero, List.set_cons_succ])
 go_cut [26] (fun v26 wc => ∃ (kq : Nat) (x26_1 : Bool), v26 = .bool x26_1 ∧ Aside0 (floor_Right.j0 kq x26_1 a0_0 a0_1 a0_2 l0_3 l0_4 = some r) ∧ Aside0 (kq ≤ k) ∧ Aside0 (wc.heap[gb200]? = some (.cells #[.int .i64 a0_0, .int .i64 a0_1, .int .i64 a0_2, (.slice A0_3 l0_3.length c0_3), (.slice A0_4 l0_4.length c0_4)] 24 (0, 0))) ∧ Aside0 (Below w.heap.size w wc))
 case first =>
  have H := HC2.1; clear HC2; obtain ⟨ji4, hji4⟩ : ∃ j_ : Int, (mn a0_0 a0_1) = j_ := ⟨_, rfl⟩
  replace H : (if (mn (ji4) a0_2) < 1 then (floor_Right.j0 k true a0_0 a0_1 a0_2 l0_3 l0_4) else (if a0_2 > 4 then (floor_Right.j0 k true a0_0 a0_1 a0_2 l0_3 l0_4) else (floor_Right.j0 k (decide ((mx a0_0 a0_1) > 4096)) a0_0 a0_1 a0_2 l0_3 l0_4))) = some r := by first | (rw [hji4] at H; exact H) | (simp only [hji4] at H ⊢; exact H)
  have hji4_ : (if a0_1 < a0_0 then a0_1 else a0_0) = ji4 := hji4; obtain ⟨ji5, hji5⟩ : ∃ j_ : Int, (mn (ji4) a0_2) = j_ := ⟨_, rfl⟩
  replace H : (if (ji5) < 1 then (floor_Right.j0 k true a0_0 a0_1 a0_2 l0_3 l0_4) else (if a0_2 > 4 then (floor_Right.j0 k true a0_0 a0_1 a0_2 l0_3 l0_4) else (floor_Right.j0 k (decide ((mx a0_0 a0_1) > 4096)) a0_0 a0_1 a0_2 l0_3 l0_4))) = some r := by first | (rw [hji5] at H; exact H) | (simp only [hji5] at H ⊢; exact H)
  have hji5_ : (if a0_2 < (ji4) then a0_2 else (ji4)) = ji5 := hji5
  by_cases c6 : (ji5) < 1
  ·rw [if_pos c6] at H; have c6b0 : decide ((ji5) < 1) = true := decide_eq_true c6; clear c6; (first | rw [c6b0] | (simp only [i64_w, i32_w]; rw [c6b0]) | skip); have H' := ak H; clear H; have hcz7_0 : w3.cell? ⟨gb200, 0, none⟩ = some (.int .i64 a0_0) := (blk_cell BK200.1 0).trans rfl; have hcz7_1 : w3.cell? ⟨gb200, 1, none⟩ = some (.int .i64 a0_1) := (blk_cell BK200.1 1).trans rfl; have hcz7_2 : w3.cell? ⟨gb200, 2, none⟩ = some (.int .i64 a0_2) := (blk_cell BK200.1 2).trans rfl; have hcz7_3 : w3.cell? ⟨gb200, 3, none⟩ = some (.slice A0_3 l0_3.length c0_3) := (blk_cell BK200.1 3).trans rfl; have hcz7_4 : w3.cell? ⟨gb200, 4, none⟩ = some (.slice A0_4 l0_4.length c0_4) := (blk_cell BK200.1 4).trans rfl; have hfz7_0 := blk_frozen BK200.1 0; have hfz7_1 := blk_frozen BK200.1 1; have hfz7_2 := blk_frozen BK200.1 2; have hfz7_3 := blk_frozen BK200.1 3; have hfz7_4 := blk_frozen BK200.1 4
   go_wp2
   go_meet
   case rel => exact ⟨_, (true), (by first | rfl | (simp; done) | (simp [*]; done)), H', ⟨by first | omega | exact Nat.le_refl _⟩, ⟨by (with_reducible repeat (first | refine blk_drewN ?_ _ | refine blk_drew ?_ | refine blk_alloc ?_ _)); exact BK200.1⟩, ⟨hq1_ HB.1 GE200.1⟩⟩
  ·rw [if_neg c6] at H; have c6b0 : decide ((ji5) < 1) = false := decide_eq_false c6; clear c6; (first | rw [c6b0] | (simp only [i64_w, i32_w]; rw [c6b0]) | skip)
   by_cases c8 : a0_2 > 4
   ·rw [if_pos c8] at H; have c8b0 : decide (4 < a0_2) = true := decide_eq_true c8; clear c8; have H' := ak H; clear H; have hcz9_0 : w3.cell? ⟨gb200, 0, none⟩ = some (.int .i64 a0_0) := (blk_cell BK200.1 0).trans rfl; have hcz9_1 : w3.cell? ⟨gb200, 1, none⟩ = some (.int .i64 a0_1) := (blk_cell BK200.1 1).trans rfl; have hcz9_2 : w3.cell? ⟨gb200, 2, none⟩ = some (.int .i64 a0_2) := (blk_cell BK200.1 2).trans rfl; have hcz9_3 : w3.cell? ⟨gb200, 3, none⟩ = some (.slice A0_3 l0_3.length c0_3) := (blk_cell BK200.1 3).trans rfl; have hcz9_4 : w3.cell? ⟨gb200, 4, none⟩ = some (.slice A0_4 l0_4.length c0_4) := (blk_cell BK200.1 4).trans rfl; have hfz9_0 := blk_frozen BK200.1 0; have hfz9_1 := blk_frozen BK200.1 1; have hfz9_2 := blk_frozen BK200.1 2; have hfz9_3 := blk_frozen BK200.1 3; have hfz9_4 := blk_frozen BK200.1 4
    go_wp2
    go_meet
    case rel => exact ⟨_, (true), (by first | rfl | (simp; done) | (simp [*]; done)), H', ⟨by first | omega | exact Nat.le_refl _⟩, ⟨by (with_reducible repeat (first | refine blk_drewN ?_ _ | refine blk_drew ?_ | refine blk_alloc ?_ _)); exact BK200.1⟩, ⟨hq1_ HB.1 GE200.1⟩⟩
   ·rw [if_neg c8] at H; have c8b0 : decide (4 < a0_2) = false := decide_eq_false c8; clear c8; obtain ⟨ji10, hji10⟩ : ∃ j_ : Int, (mx a0_0 a0_1) = j_ := ⟨_, rfl⟩
    replace H : (floor_Right.j0 k (decide ((ji10) > 4096)) a0_0 a0_1 a0_2 l0_3 l0_4) = some r := by first | (rw [hji10] at H; exact H) | (simp only [hji10] at H ⊢; exact H)
    have hji10_ : (if a0_0 < a0_1 then a0_1 else a0_0) = ji10 := hji10; have H' := ak H; clear H; have hcz11_0 : w3.cell? ⟨gb200, 0, none⟩ = some (.int .i64 a0_0) := (blk_cell BK200.1 0).trans rfl; have hcz11_1 : w3.cell? ⟨gb200, 1, none⟩ = some (.int .i64 a0_1) := (blk_cell BK200.1 1).trans rfl; have hcz11_2 : w3.cell? ⟨gb200, 2, none⟩ = some (.int .i64 a0_2) := (blk_cell BK200.1 2).trans rfl; have hcz11_3 : w3.cell? ⟨gb200, 3, none⟩ = some (.slice A0_3 l0_3.length c0_3) := (blk_cell BK200.1 3).trans rfl; have hcz11_4 : w3.cell? ⟨gb200, 4, none⟩ = some (.slice A0_4 l0_4.length c0_4) := (blk_cell BK200.1 4).trans rfl; have hfz11_0 := blk_frozen BK200.1 0; have hfz11_1 := blk_frozen BK200.1 1; have hfz11_2 := blk_frozen BK200.1 2; have hfz11_3 := blk_frozen BK200.1 3; have hfz11_4 := blk_frozen BK200.1 4
    go_wp2
    go_meet
    case rel => exact ⟨_, (decide ((ji10) > 4096)), (by first | rfl | (simp; done) | (simp only [← hji10] <;> (first | rfl | simp)) | (simp [*]; done)), H', ⟨by first | omega | exact Nat.le_refl _⟩, ⟨by (with_reducible repeat (first | refine blk_drewN ?_ _ | refine blk_drew ?_ | refine blk_alloc ?_ _)); exact BK200.1⟩, ⟨hq1_ HB.1 GE200.1⟩⟩
 case rest =>
  clear HC2; (try clear p2); (try clear c4); (try clear c6); (try clear c6b0); (try clear c8); (try clear c8b0); (try clear hcz11_0); (try clear hcz11_1); (try clear hcz11_2); (try clear hcz11_3); (try clear hcz11_4); (try clear hcz7_0); (try clear hcz7_1); (try clear hcz7_2); (try clear hcz7_3); (try clear hcz7_4); (try clear hcz9_0); (try clear hcz9_1); (try clear hcz9_2); (try clear hcz9_3); (try clear hcz9_4); (try clear hfz11_0); (try clear hfz11_1); (try clear hfz11_2); (try clear hfz11_3); (try clear hfz11_4); (try clear hfz7_0); (try clear hfz7_1); (try clear hfz7_2); (try clear hfz7_3); (try clear hfz7_4); (try clear hfz9_0); (try clear hfz9_1); (try clear hfz9_2); (try clear hfz9_3); (try clear hfz9_4); obtain ⟨kq, x26_1, rfl, HA, HJ1, BK200, HB⟩ := hcut
  cases kq with
  | zero => exact absurd HA.1 (by simp [floor_Right.j0])
  | succ kj1 =>
   have H := HA.1; clear HA; simp only [floor_Right.j0] at H
   by_cases c12 : x26_1 = true
   ·subst c12
    have H1 : (some false) = some r := by rw [if_pos rfl] at H; exact H
    clear H; have H := H1; clear H1; obtain rfl := Option.some.inj H
    go_wp2
    go_ret
    exact ⟨er_, hq1_ HB.1 GE200.1⟩
   ·replace c12 := Bool.eq_false_iff.mpr c12; subst c12
    have H1 : ((floor_size.f a0_0 a0_1 a0_2 l0_3 l0_4).bind fun t201 => (if t201 > 4096 then (floor_Right.j1 kj1 true a0_0 a0_1 a0_2 l0_3 l0_4) else (if (l0_3.length : Int) = t201 then (floor_Right.j1 kj1 ((l0_4.length : Int) != t201) a0_0 a0_1 a0_2 l0_3 l0_4) else (floor_Right.j1 kj1 true a0_0 a0_1 a0_2 l0_3 l0_4)))) = some r := by rw [if_neg (show ¬ (false = true) by decide)] at H; exact H
    clear H; have H := H1; clear H1; replace H := Option.bind_eq_some_iff.mp H; obtain ⟨t201, A130, H⟩ := H
    replace H : (if t201 > 4096 then (floor_Right.j1 kj1 true a0_0 a0_1 a0_2 l0_3 l0_4) else (if (l0_3.length : Int) = t201 then (floor_Right.j1 kj1 ((l0_4.length : Int) != t201) a0_0 a0_1 a0_2 l0_3 l0_4) else (floor_Right.j1 kj1 true a0_0 a0_1 a0_2 l0_3 l0_4))) = some r := H
    have A13 := ak A130; clear A130; have HC14 := ak H; clear H; have hcz15_0 : wc.cell? ⟨gb200, 0, none⟩ = some (.int .i64 a0_0) := (blk_cell BK200.1 0).trans rfl; have hcz15_1 : wc.cell? ⟨gb200, 1, none⟩ = some (.int .i64 a0_1) := (blk_cell BK200.1 1).trans rfl; have hcz15_2 : wc.cell? ⟨gb200, 2, none⟩ = some (.int .i64 a0_2) := (blk_cell BK200.1 2).trans rfl; have hcz15_3 : wc.cell? ⟨gb200, 3, none⟩ = some (.slice A0_3 l0_3.length c0_3) := (blk_cell BK200.1 3).trans rfl; have hcz15_4 : wc.cell? ⟨gb200, 4, none⟩ = some (.slice A0_4 l0_4.length c0_4) := (blk_cell BK200.1 4).trans rfl; have hfz15_0 := blk_frozen BK200.1 0; have hfz15_1 := blk_frozen BK200.1 1; have hfz15_2 := blk_frozen BK200.1 2; have hfz15_3 := blk_frozen BK200.1 3; have hfz15_4 := blk_frozen BK200.1 4
    go_upto_region 4 with (first | ((with_reducible refine gate_callee (f := 74) rfl ?_); refine goesL_ (some 28) rfl rfl Try.func74 (by kernel_rfl) rfl #[.agg #[.int .i64 a0_0, .int .i64 a0_1, .int .i64 a0_2, .slice A0_3 l0_3.length c0_3, .slice A0_4 l0_4.length c0_4]] rfl (sm_) ?_; (with_reducible refine (floor_size.calls a0_0 a0_1 a0_2 _ _ l0_3 _ _ l0_4 t201 _ ?side1 ?side2 ?side3 ?side4 A13.1).mono ?_); (case side1 => repeat (first | exact (Kd.C_below HR0_3.1 HB.1) | (with_reducible refine Kd.C_alloc ?_ _) | (with_reducible refine Kd.C_drewN ?_ _) | (with_reducible refine Kd.C_drew ?_))); (case side2 => exact HC0_3.1); (case side3 => repeat (first | exact (Kd.C_below HR0_4.1 HB.1) | (with_reducible refine Kd.C_alloc ?_ _) | (with_reducible refine Kd.C_drewN ?_ _) | (with_reducible refine Kd.C_drew ?_))); (case side4 => exact HC0_4.1); rintro e w16 ⟨rfl, hb⟩; refine ⟨_, rfl, ?_⟩; have n0_ := ak (blk_below (g := gb200) (o := .cells #[.int .i64 a0_0, .int .i64 a0_1, .int .i64 a0_2, .slice A0_3 l0_3.length c0_3, .slice A0_4 l0_4.length c0_4] 24 (0, 0)) (bq_ BK200.1) hb); have n1_ := ak (below_step (hq1_ HB.1 GE200.1) hb); clear BK200; clear HB; have BK200 := n0_; have HB := n1_; clear n0_ n1_; (try clear hb); (try clear hb2); (try clear hk); (try clear hi)))
    (try simp only [Act.put, List.setIfInBounds_toArray, List.set_cons_zero, List.set_cons_succ])
    go_cut [44] (fun v44 wc => ∃ (kq : Nat) (x44_13 : Bool), v44 = .bool x44_13 ∧ Aside0 (floor_Right.j1 kq x44_13 a0_0 a0_1 a0_2 l0_3 l0_4 = some r) ∧ Aside0 (kq ≤ kj1) ∧ Aside0 (wc.heap[gb200]? = some (.cells #[.int .i64 a0_0, .int .i64 a0_1, .int .i64 a0_2, (.slice A0_3 l0_3.length c0_3), (.slice A0_4 l0_4.length c0_4)] 24 (0, 0))) ∧ Aside0 (Below w.heap.size w wc))
    case first =>
     have H := HC14.1; clear HC14
     by_cases c17 : t201 > 4096
     ·rw [if_pos c17] at H; have c17b0 : decide (4096 < t201) = true := decide_eq_true c17; clear c17; (first | rw [c17b0] | (simp only [i64_w, i32_w]; rw [c17b0]) | skip); have H' := ak H; clear H
      go_wp2
      go_meet
      case rel => exact ⟨_, (true), (by first | rfl | (simp; done) | (simp [*]; done)), H', ⟨by have := HJ1.1; first | omega | exact Nat.le_refl _⟩, ⟨by (with_reducible repeat (first | refine blk_drewN ?_ _ | refine blk_drew ?_ | refine blk_alloc ?_ _)); exact BK200.1⟩, ⟨hq1_ HB.1 GE200.1⟩⟩
     ·rw [if_neg c17] at H; have c17b0 : decide (4096 < t201) = false := decide_eq_false c17; clear c17; (first | rw [c17b0] | (simp only [i64_w, i32_w]; rw [c17b0]) | skip)
      by_cases c18 : (l0_3.length : Int) = t201
      ·rw [if_pos c18] at H; have c18b0 : ((l0_3.length : Int) == t201) = true := beq_iff_eq.mpr c18; have c18b1 : ((l0_3.length : Int) != t201) = false := bne_eq_false_iff_eq.mpr c18; clear c18; have H' := ak H; clear H; have hcz19_0 : w16.cell? ⟨gb200, 0, none⟩ = some (.int .i64 a0_0) := (blk_cell BK200.1 0).trans rfl; have hcz19_1 : w16.cell? ⟨gb200, 1, none⟩ = some (.int .i64 a0_1) := (blk_cell BK200.1 1).trans rfl; have hcz19_2 : w16.cell? ⟨gb200, 2, none⟩ = some (.int .i64 a0_2) := (blk_cell BK200.1 2).trans rfl; have hcz19_3 : w16.cell? ⟨gb200, 3, none⟩ = some (.slice A0_3 l0_3.length c0_3) := (blk_cell BK200.1 3).trans rfl; have hcz19_4 : w16.cell? ⟨gb200, 4, none⟩ = some (.slice A0_4 l0_4.length c0_4) := (blk_cell BK200.1 4).trans rfl; have hfz19_0 := blk_frozen BK200.1 0; have hfz19_1 := blk_frozen BK200.1 1; have hfz19_2 := blk_frozen BK200.1 2; have hfz19_3 := blk_frozen BK200.1 3; have hfz19_4 := blk_frozen BK200.1 4
       go_wp2
       go_meet
       case rel => exact ⟨_, (((l0_4.length : Int) != t201)), (by first | rfl | (simp; done) | (simp [*]; done)), H', ⟨by have := HJ1.1; first | omega | exact Nat.le_refl _⟩, ⟨by (with_reducible repeat (first | refine blk_drewN ?_ _ | refine blk_drew ?_ | refine blk_alloc ?_ _)); exact BK200.1⟩, ⟨hq1_ HB.1 GE200.1⟩⟩
      ·rw [if_neg c18] at H; have c18b0 : ((l0_3.length : Int) == t201) = false := beq_eq_false_iff_ne.mpr c18; have c18b1 : ((l0_3.length : Int) != t201) = true := bne_iff_ne.mpr c18; have H' := ak H; clear H; have hcz20_0 : w16.cell? ⟨gb200, 0, none⟩ = some (.int .i64 a0_0) := (blk_cell BK200.1 0).trans rfl; have hcz20_1 : w16.cell? ⟨gb200, 1, none⟩ = some (.int .i64 a0_1) := (blk_cell BK200.1 1).trans rfl; have hcz20_2 : w16.cell? ⟨gb200, 2, none⟩ = some (.int .i64 a0_2) := (blk_cell BK200.1 2).trans rfl; have hcz20_3 : w16.cell? ⟨gb200, 3, none⟩ = some (.slice A0_3 l0_3.length c0_3) := (blk_cell BK200.1 3).trans rfl; have hcz20_4 : w16.cell? ⟨gb200, 4, none⟩ = some (.slice A0_4 l0_4.length c0_4) := (blk_cell BK200.1 4).trans rfl; have hfz20_0 := blk_frozen BK200.1 0; have hfz20_1 := blk_frozen BK200.1 1; have hfz20_2 := blk_frozen BK200.1 2; have hfz20_3 := blk_frozen BK200.1 3; have hfz20_4 := blk_frozen BK200.1 4
       go_wp2
       go_meet
       case rel => exact ⟨_, (true), (by first | rfl | (simp; done) | (simp [*]; done)), H', ⟨by have := HJ1.1; first | omega | exact Nat.le_refl _⟩, ⟨by (with_reducible repeat (first | refine blk_drewN ?_ _ | refine blk_drew ?_ | refine blk_alloc ?_ _)); exact BK200.1⟩, ⟨hq1_ HB.1 GE200.1⟩⟩
    case rest =>
     clear HC14; (try clear c1); (try clear p2); (try clear c4); (try clear c6); (try clear c6b0); (try clear c7); (try clear c8); (try clear c8b0); (try clear c12); (try clear c17); (try clear c17b0); (try clear c18); (try clear c18b0); (try clear c18b1); (try clear hcz11_0); (try clear hcz11_1); (try clear hcz11_2); (try clear hcz11_3); (try clear hcz11_4); (try clear hcz15_0); (try clear hcz15_1); (try clear hcz15_2); (try clear hcz15_3); (try clear hcz15_4); (try clear hcz19_0); (try clear hcz19_1); (try clear hcz19_2); (try clear hcz19_3); (try clear hcz19_4); (try clear hcz20_0); (try clear hcz20_1); (try clear hcz20_2); (try clear hcz20_3); (try clear hcz20_4); (try clear hcz7_0); (try clear hcz7_1); (try clear hcz7_2); (try clear hcz7_3); (try clear hcz7_4); (try clear hcz9_0); (try clear hcz9_1); (try clear hcz9_2); (try clear hcz9_3); (try clear hcz9_4); (try clear hfz11_0); (try clear hfz11_1); (try clear hfz11_2); (try clear hfz11_3); (try clear hfz11_4); (try clear hfz15_0); (try clear hfz15_1); (try clear hfz15_2); (try clear hfz15_3); (try clear hfz15_4); (try clear hfz19_0); (try clear hfz19_1); (try clear hfz19_2); (try clear hfz19_3); (try clear hfz19_4); (try clear hfz20_0); (try clear hfz20_1); (try clear hfz20_2); (try clear hfz20_3); (try clear hfz20_4); (try clear hfz7_0); (try clear hfz7_1); (try clear hfz7_2); (try clear hfz7_3); (try clear hfz7_4); (try clear hfz9_0); (try clear hfz9_1); (try clear hfz9_2); (try clear hfz9_3); (try clear hfz9_4); (try clear p2); obtain ⟨kq, x44_13, rfl, HA, HJ13, BK200, HB⟩ := hcut
     cases kq with
     | zero => exact absurd HA.1 (by simp [floor_Right.j1])
     | succ kj13 =>
      have H := HA.1; clear HA; simp only [floor_Right.j1] at H
      by_cases c21 : x44_13 = true
      ·subst c21
       have H1 : (some false) = some r := by rw [if_pos rfl] at H; exact H
       clear H; have H := H1; clear H1; obtain rfl := Option.some.inj H
       go_wp2
       go_ret
       exact ⟨er_, hq1_ HB.1 GE200.1⟩
      ·replace c21 := Bool.eq_false_iff.mpr c21; subst c21
       have H1 : (floor_Right.l0 kj13 l0_3 (l0_3.length : Int) 0 a0_0 a0_1 a0_2 l0_3 l0_4) = some r := by rw [if_neg (show ¬ (false = true) by decide)] at H; exact H
       clear H; have H := H1; clear H1; have H' := ak H; clear H; have hcz22_0 : wc.cell? ⟨gb200, 0, none⟩ = some (.int .i64 a0_0) := (blk_cell BK200.1 0).trans rfl; have hcz22_1 : wc.cell? ⟨gb200, 1, none⟩ = some (.int .i64 a0_1) := (blk_cell BK200.1 1).trans rfl; have hcz22_2 : wc.cell? ⟨gb200, 2, none⟩ = some (.int .i64 a0_2) := (blk_cell BK200.1 2).trans rfl; have hcz22_3 : wc.cell? ⟨gb200, 3, none⟩ = some (.slice A0_3 l0_3.length c0_3) := (blk_cell BK200.1 3).trans rfl; have hcz22_4 : wc.cell? ⟨gb200, 4, none⟩ = some (.slice A0_4 l0_4.length c0_4) := (blk_cell BK200.1 4).trans rfl; have hfz22_0 := blk_frozen BK200.1 0; have hfz22_1 := blk_frozen BK200.1 1; have hfz22_2 := blk_frozen BK200.1 2; have hfz22_3 := blk_frozen BK200.1 3; have hfz22_4 := blk_frozen BK200.1 4
       go_wp2
       go_loopg [48] kj13 (fun kq v48 w' => ∃ (x48_3 : Int), v48 = .int .i64 x48_3 ∧ Aside0 (floor_Right.l0 kq l0_3 (l0_3.length : Int) x48_3 a0_0 a0_1 a0_2 l0_3 l0_4 = some r) ∧ Aside0 (kq ≤ kj13) ∧ Aside0 (w'.heap[gb200]? = some (.cells #[.int .i64 a0_0, .int .i64 a0_1, .int .i64 a0_2, (.slice A0_3 l0_3.length c0_3), (.slice A0_4 l0_4.length c0_4)] 24 (0, 0))) ∧ Aside0 (Below w.heap.size w w'))
       case atStart => exact ⟨(0), (by first | rfl | (simp; done) | (simp [*]; done)), H', ⟨Nat.le_refl _⟩, ⟨by (with_reducible repeat (first | refine blk_drewN ?_ _ | refine blk_drew ?_ | refine blk_alloc ?_ _)); exact BK200.1⟩, ⟨hq1_ HB.1 GE200.1⟩⟩
       case round =>
        clear H'; (try clear c1); (try clear c2); (try clear p2); (try clear c4); (try clear c6); (try clear c6b0); (try clear c7); (try clear c8); (try clear c8b0); (try clear c12); (try clear c17); (try clear c17b0); (try clear c18); (try clear c18b0); (try clear c18b1); (try clear c21); (try clear hcz11_0); (try clear hcz11_1); (try clear hcz11_2); (try clear hcz11_3); (try clear hcz11_4); (try clear hcz15_0); (try clear hcz15_1); (try clear hcz15_2); (try clear hcz15_3); (try clear hcz15_4); (try clear hcz19_0); (try clear hcz19_1); (try clear hcz19_2); (try clear hcz19_3); (try clear hcz19_4); (try clear hcz20_0); (try clear hcz20_1); (try clear hcz20_2); (try clear hcz20_3); (try clear hcz20_4); (try clear hcz22_0); (try clear hcz22_1); (try clear hcz22_2); (try clear hcz22_3); (try clear hcz22_4); (try clear hcz7_0); (try clear hcz7_1); (try clear hcz7_2); (try clear hcz7_3); (try clear hcz7_4); (try clear hcz9_0); (try clear hcz9_1); (try clear hcz9_2); (try clear hcz9_3); (try clear hcz9_4); (try clear hfz11_0); (try clear hfz11_1); (try clear hfz11_2); (try clear hfz11_3); (try clear hfz11_4); (try clear hfz15_0); (try clear hfz15_1); (try clear hfz15_2); (try clear hfz15_3); (try clear hfz15_4); (try clear hfz19_0); (try clear hfz19_1); (try clear hfz19_2); (try clear hfz19_3); (try clear hfz19_4); (try clear hfz20_0); (try clear hfz20_1); (try clear hfz20_2); (try clear hfz20_3); (try clear hfz20_4); (try clear hfz22_0); (try clear hfz22_1); (try clear hfz22_2); (try clear hfz22_3); (try clear hfz22_4); (try clear hfz7_0); (try clear hfz7_1); (try clear hfz7_2); (try clear hfz7_3); (try clear hfz7_4); (try clear hfz9_0); (try clear hfz9_1); (try clear hfz9_2); (try clear hfz9_3); (try clear hfz9_4); (try clear p2); obtain ⟨x48_3, rfl, HA, HK3, BK200, HB⟩ := hrel
        cases gk with
        | zero => exact absurd HA.1 (by simp [floor_Right.l0])
        | succ k3 =>
         have H := HA.1; clear HA; simp only [floor_Right.l0] at H
         by_cases c23 : x48_3 < (l0_3.length : Int)
         ·rw [if_pos c23] at H; have c23b0 : decide (x48_3 < (l0_3.length : Int)) = true := decide_eq_true c23; clear c23
          by_cases c24 : 0 ≤ x48_3
          ·rw [if_pos c24] at H; have c24b0 : decide (0 ≤ x48_3) = true := decide_eq_true c24; clear c24
           by_cases c25 : x48_3 < (l0_3.length : Int)
           ·rw [if_pos c25] at H; have c25b0 : decide (x48_3 < (l0_3.length : Int)) = true := decide_eq_true c25; clear c25
            by_cases c26 : (rd l0_3 x48_3) < 0
            ·rw [if_pos c26] at H; have c26b0 : decide ((rd l0_3 x48_3) < 0) = true := decide_eq_true c26; clear c26; obtain rfl := Option.some.inj H; have p202 : 0 ≤ (x48_3 : Int) := of_decide_eq_true (as_); have q202 : x48_3 < (l0_3.length : Int) := of_decide_eq_true (as_); obtain ⟨ad202, e202, hx202_0⟩ := Kd.at_int HR0_3.1 x48_3 p202 q202
             cases e202
             replace hx202_0 := (HB.1.cell (World.block_lt_of_cell? w _ hx202_0)).trans hx202_0; replace p202 := eq_true p202; replace q202 := eq_true q202
             go_wp2
             go_ret
             exact ⟨er_, hq1_ HB.1 GE200.1⟩
            ·rw [if_neg c26] at H; have c26b0 : decide ((rd l0_3 x48_3) < 0) = false := decide_eq_false c26; clear c26
             by_cases c27 : (rd l0_3 x48_3) ≥ 7
             ·rw [if_pos c27] at H; have c27b0 : decide (7 ≤ (rd l0_3 x48_3)) = true := decide_eq_true c27; clear c27; obtain rfl := Option.some.inj H; have p202 : 0 ≤ (x48_3 : Int) := of_decide_eq_true (as_); have q202 : x48_3 < (l0_3.length : Int) := of_decide_eq_true (as_); obtain ⟨ad202, e202, hx202_0⟩ := Kd.at_int HR0_3.1 x48_3 p202 q202
              cases e202
              replace hx202_0 := (HB.1.cell (World.block_lt_of_cell? w _ hx202_0)).trans hx202_0; replace p202 := eq_true p202; replace q202 := eq_true q202
              go_wp2
              go_ret
              exact ⟨er_, hq1_ HB.1 GE200.1⟩
             ·rw [if_neg c27] at H; have c27b0 : decide (7 ≤ (rd l0_3 x48_3)) = false := decide_eq_false c27; clear c27
              by_cases c28 : x48_3 < (l0_4.length : Int)
              ·rw [if_pos c28] at H; have c28b0 : decide (x48_3 < (l0_4.length : Int)) = true := decide_eq_true c28; clear c28
               by_cases c29 : (rd l0_4 x48_3) < 0
               ·rw [if_pos c29] at H; have c29b0 : decide ((rd l0_4 x48_3) < 0) = true := decide_eq_true c29; clear c29; obtain rfl := Option.some.inj H; have p202 : 0 ≤ (x48_3 : Int) := of_decide_eq_true (as_); have q202 : x48_3 < (l0_3.length : Int) := of_decide_eq_true (as_); obtain ⟨ad202, e202, hx202_0⟩ := Kd.at_int HR0_3.1 x48_3 p202 q202
                cases e202
                replace hx202_0 := (HB.1.cell (World.block_lt_of_cell? w _ hx202_0)).trans hx202_0; replace p202 := eq_true p202; replace q202 := eq_true q202; have hcz30_0 : wr.cell? ⟨gb200, 0, none⟩ = some (.int .i64 a0_0) := (blk_cell BK200.1 0).trans rfl; have hcz30_1 : wr.cell? ⟨gb200, 1, none⟩ = some (.int .i64 a0_1) := (blk_cell BK200.1 1).trans rfl; have hcz30_2 : wr.cell? ⟨gb200, 2, none⟩ = some (.int .i64 a0_2) := (blk_cell BK200.1 2).trans rfl; have hcz30_3 : wr.cell? ⟨gb200, 3, none⟩ = some (.slice (some ad202) l0_3.length c0_3) := (blk_cell BK200.1 3).trans rfl; have hcz30_4 : wr.cell? ⟨gb200, 4, none⟩ = some (.slice A0_4 l0_4.length c0_4) := (blk_cell BK200.1 4).trans rfl; have hfz30_0 := blk_frozen BK200.1 0; have hfz30_1 := blk_frozen BK200.1 1; have hfz30_2 := blk_frozen BK200.1 2; have hfz30_3 := blk_frozen BK200.1 3; have hfz30_4 := blk_frozen BK200.1 4; have p203 : 0 ≤ (x48_3 : Int) := of_decide_eq_true (as_); have q203 : x48_3 < (l0_4.length : Int) := of_decide_eq_true (as_); obtain ⟨ad203, e203, hx203_0⟩ := Kd.at_int HR0_4.1 x48_3 p203 q203
                cases e203
                replace hx203_0 := (HB.1.cell (World.block_lt_of_cell? w _ hx203_0)).trans hx203_0; replace p203 := eq_true p203; replace q203 := eq_true q203
                go_wp2
                go_ret
                exact ⟨er_, hq1_ HB.1 GE200.1⟩
               ·rw [if_neg c29] at H; have c29b0 : decide ((rd l0_4 x48_3) < 0) = false := decide_eq_false c29; clear c29
                by_cases c31 : (rd l0_4 x48_3) > 63
                ·rw [if_pos c31] at H; have c31b0 : decide (63 < (rd l0_4 x48_3)) = true := decide_eq_true c31; clear c31; obtain rfl := Option.some.inj H; have p202 : 0 ≤ (x48_3 : Int) := of_decide_eq_true (as_); have q202 : x48_3 < (l0_3.length : Int) := of_decide_eq_true (as_); obtain ⟨ad202, e202, hx202_0⟩ := Kd.at_int HR0_3.1 x48_3 p202 q202
                 cases e202
                 replace hx202_0 := (HB.1.cell (World.block_lt_of_cell? w _ hx202_0)).trans hx202_0; replace p202 := eq_true p202; replace q202 := eq_true q202; have hcz32_0 : wr.cell? ⟨gb200, 0, none⟩ = some (.int .i64 a0_0) := (blk_cell BK200.1 0).trans rfl; have hcz32_1 : wr.cell? ⟨gb200, 1, none⟩ = some (.int .i64 a0_1) := (blk_cell BK200.1 1).trans rfl; have hcz32_2 : wr.cell? ⟨gb200, 2, none⟩ = some (.int .i64 a0_2) := (blk_cell BK200.1 2).trans rfl; have hcz32_3 : wr.cell? ⟨gb200, 3, none⟩ = some (.slice (some ad202) l0_3.length c0_3) := (blk_cell BK200.1 3).trans rfl; have hcz32_4 : wr.cell? ⟨gb200, 4, none⟩ = some (.slice A0_4 l0_4.length c0_4) := (blk_cell BK200.1 4).trans rfl; have hfz32_0 := blk_frozen BK200.1 0; have hfz32_1 := blk_frozen BK200.1 1; have hfz32_2 := blk_frozen BK200.1 2; have hfz32_3 := blk_frozen BK200.1 3; have hfz32_4 := blk_frozen BK200.1 4; have p203 : 0 ≤ (x48_3 : Int) := of_decide_eq_true (as_); have q203 : x48_3 < (l0_4.length : Int) := of_decide_eq_true (as_); obtain ⟨ad203, e203, hx203_0⟩ := Kd.at_int HR0_4.1 x48_3 p203 q203
                 cases e203
                 replace hx203_0 := (HB.1.cell (World.block_lt_of_cell? w _ hx203_0)).trans hx203_0; replace p203 := eq_true p203; replace q203 := eq_true q203; have p204 : 0 ≤ (x48_3 : Int) := of_decide_eq_true (as_); have q204 : x48_3 < (l0_4.length : Int) := of_decide_eq_true (as_); obtain ⟨ad204, e204, hx204_0⟩ := Kd.at_int HR0_4.1 x48_3 p204 q204; obtain rfl : ad203 = ad204 := (by injection e204); replace hx204_0 := (HB.1.cell (World.block_lt_of_cell? w _ hx204_0)).trans hx204_0; replace p204 := eq_true p204; replace q204 := eq_true q204
                 go_wp2
                 go_ret
                 exact ⟨er_, hq1_ HB.1 GE200.1⟩
                ·rw [if_neg c31] at H; have c31b0 : decide (63 < (rd l0_4 x48_3)) = false := decide_eq_false c31; clear c31; have H' := ak H; clear H; have p202 : 0 ≤ (x48_3 : Int) := of_decide_eq_true (as_); have q202 : x48_3 < (l0_3.length : Int) := of_decide_eq_true (as_); obtain ⟨ad202, e202, hx202_0⟩ := Kd.at_int HR0_3.1 x48_3 p202 q202
                 cases e202
                 replace hx202_0 := (HB.1.cell (World.block_lt_of_cell? w _ hx202_0)).trans hx202_0; replace p202 := eq_true p202; replace q202 := eq_true q202; have hcz33_0 : wr.cell? ⟨gb200, 0, none⟩ = some (.int .i64 a0_0) := (blk_cell BK200.1 0).trans rfl; have hcz33_1 : wr.cell? ⟨gb200, 1, none⟩ = some (.int .i64 a0_1) := (blk_cell BK200.1 1).trans rfl; have hcz33_2 : wr.cell? ⟨gb200, 2, none⟩ = some (.int .i64 a0_2) := (blk_cell BK200.1 2).trans rfl; have hcz33_3 : wr.cell? ⟨gb200, 3, none⟩ = some (.slice (some ad202) l0_3.length c0_3) := (blk_cell BK200.1 3).trans rfl; have hcz33_4 : wr.cell? ⟨gb200, 4, none⟩ = some (.slice A0_4 l0_4.length c0_4) := (blk_cell BK200.1 4).trans rfl; have hfz33_0 := blk_frozen BK200.1 0; have hfz33_1 := blk_frozen BK200.1 1; have hfz33_2 := blk_frozen BK200.1 2; have hfz33_3 := blk_frozen BK200.1 3; have hfz33_4 := blk_frozen BK200.1 4; have p203 : 0 ≤ (x48_3 : Int) := of_decide_eq_true (as_); have q203 : x48_3 < (l0_4.length : Int) := of_decide_eq_true (as_); obtain ⟨ad203, e203, hx203_0⟩ := Kd.at_int HR0_4.1 x48_3 p203 q203
                 cases e203
                 replace hx203_0 := (HB.1.cell (World.block_lt_of_cell? w _ hx203_0)).trans hx203_0; replace p203 := eq_true p203; replace q203 := eq_true q203; have p204 : 0 ≤ (x48_3 : Int) := of_decide_eq_true (as_); have q204 : x48_3 < (l0_4.length : Int) := of_decide_eq_true (as_); obtain ⟨ad204, e204, hx204_0⟩ := Kd.at_int HR0_4.1 x48_3 p204 q204; obtain rfl : ad203 = ad204 := (by injection e204); replace hx204_0 := (HB.1.cell (World.block_lt_of_cell? w _ hx204_0)).trans hx204_0; replace p204 := eq_true p204; replace q204 := eq_true q204
                 go_wp2
                 go_roundg k3
                 case measure => have := HJ1.1; have := HJ13.1; have := HK3.1; omega
                 case rel => exact ⟨(wrap64 (x48_3 + 1)), (by first | rfl | (simp; done) | (simp [*]; done)), H', ⟨by have := HJ1.1; have := HJ13.1; have := HK3.1; omega⟩, ⟨by (with_reducible repeat (first | refine blk_drewN ?_ _ | refine blk_drew ?_ | refine blk_alloc ?_ _)); exact BK200.1⟩, ⟨hq1_ HB.1 GE200.1⟩⟩
              ·rw [if_neg c28] at H; exact absurd H (by simp)
           ·rw [if_neg c25] at H; exact absurd H (by simp)
          ·rw [if_neg c24] at H; exact absurd H (by simp)
         ·rw [if_neg c23] at H; have c23b0 : decide (x48_3 < (l0_3.length : Int)) = false := decide_eq_false c23; clear c23; obtain rfl := Option.some.inj H
          go_wp2
          go_ret
          exact ⟨er_, hq1_ HB.1 GE200.1⟩
def region_isCell.f (a0 : Int) : Option (Bool) := if a0 ≥ 0 then (some (decide (a0 < 4096))) else (some false)
set_option maxHeartbeats 8000000 in
set_option maxRecDepth 100000 in
theorem region_isCell.calls (a0 : Int) (r : Bool) (w : World) (h : region_isCell.f a0 = some r) :
  Calls Try.prog 75 #[.int .i64 a0] w fun e w' => e = .returned (.bool r) ∧ Drawn0 w w' := by
 have H : (if a0 ≥ 0 then (some (decide (a0 < 4096))) else (some false)) = some r := h; clear h
 by_cases c2 : a0 ≥ 0
 ·rw [if_pos c2] at H; have c2b0 : decide (0 ≤ a0) = true := decide_eq_true c2; clear c2; obtain rfl := Option.some.inj H
  go_enter Try.func75, Try.ntmps75
  go_wp2
  go_ret
  exact ⟨by first | rfl | (simp; done) | (simp [*]; done), by repeat (first | exact Drawn0.refl _ | apply Drawn0.step)⟩
 ·rw [if_neg c2] at H; have c2b0 : decide (0 ≤ a0) = false := decide_eq_false c2; clear c2; obtain rfl := Option.some.inj H
  go_enter Try.func75, Try.ntmps75
  go_wp2
  go_ret
  exact ⟨by first | rfl | (simp; done) | (simp [*]; done), by repeat (first | exact Drawn0.refl _ | apply Drawn0.step)⟩
def region_Right.l0 : Nat → List Int → List Int → Int → Int → Option (Bool)
 | 0, _, _, _, _ => none
 | k + 1, x0, x5, x6, x7 => if x7 < x6 then (if 0 ≤ x7 then (if x7 < (x5.length : Int) then ((region_isCell.f (rd x5 x7)).bind fun t206 => (if t206 = true then (if x7 > 0 then (if 0 ≤ (wrap64 (x7 - 1)) then (if (wrap64 (x7 - 1)) < (x0.length : Int) then (if (rd x0 (wrap64 (x7 - 1))) ≥ (rd x5 x7) then (some false) else (region_Right.l0 k x0 x5 x6 (wrap64 (x7 + 1)))) else (none)) else (none)) else (region_Right.l0 k x0 x5 x6 (wrap64 (x7 + 1)))) else (some false))) else (none)) else (none)) else (some true)
def region_Right.f (k : Nat) (l0 : List Int) : Option (Bool) := region_Right.l0 k l0 l0 (l0.length : Int) 0
theorem region_Right.mono_l : ∀ k, (∀ y0 y1 y2 y3, LeO (region_Right.l0 k y0 y1 y2 y3) (region_Right.l0 (k + 1) y0 y1 y2 y3))
 | 0 => fun _ _ _ _ r h => by simp [region_Right.l0] at h
 | k + 1 => by
  have ih0 := region_Right.mono_l k
  ·intro y0 y1 y2 y3
   unfold region_Right.l0
   repeat' first
   | (with_reducible exact ih0 _ _ _ _)
   | (with_reducible exact LeO.refl _)
   | (with_reducible exact LeO.none _)
   | (with_reducible refine LeO.ite ?_ ?_)
   | (with_reducible refine LeO.bind ?_ (fun _ => ?_))
   | exact ih0 _ _ _ _
   | exact LeO.none _
   | refine LeO.ite ?_ ?_
   | refine LeO.bind ?_ (fun _ => ?_)
theorem region_Right.mono : ∀ a0 k, LeO (region_Right.f k a0) (region_Right.f (k + 1) a0) := by
 intro a0 k; have ih0 := region_Right.mono_l k
 unfold region_Right.f
 repeat' first
   | (with_reducible exact ih0 _ _ _ _)
   | (with_reducible exact LeO.refl _)
   | (with_reducible exact LeO.none _)
   | (with_reducible refine LeO.ite ?_ ?_)
   | (with_reducible refine LeO.bind ?_ (fun _ => ?_))
   | exact ih0 _ _ _ _
   | exact LeO.none _
   | refine LeO.ite ?_ ?_
   | refine LeO.bind ?_ (fun _ => ?_)
set_option maxHeartbeats 8000000 in
set_option maxRecDepth 100000 in
theorem region_Right.calls (k : Nat) (A0 : Option Addr) (c0 : Nat) (l0 : List Int) (r : Bool) (w : World) (hr0 : Kd.C (Kd.int .i64) w A0 l0.length l0) (hc0 : l0.length ≤ c0) (h : region_Right.f k l0 = some r) :
  Calls Try.prog 47 #[.slice A0 l0.length c0] w fun e w' => e = .returned (.bool r) ∧ Drawn0 w w' := by
 have HR0 := ak hr0; have HC0 := ak hc0; clear hr0 hc0; have H : (region_Right.l0 k l0 l0 (l0.length : Int) 0) = some r := h; clear h; have H' := ak H; clear H
 go_enter Try.func47, Try.ntmps47
 go_wp2
 go_loopg [7] k (fun kq v7 w' => ∃ (x7_1 : Int), v7 = .int .i64 x7_1 ∧ Aside0 (region_Right.l0 kq l0 l0 (l0.length : Int) x7_1 = some r) ∧ Aside0 (kq ≤ k) ∧ Drawn0 w w')
 case atStart => exact ⟨(0), (by first | rfl | (simp; done) | (simp [*]; done)), H', ⟨Nat.le_refl _⟩, by repeat (first | exact Drawn0.refl _ | apply Drawn0.step)⟩
 case round =>
  clear H'; obtain ⟨x7_1, rfl, HA, HK1, ⟨m1, rfl⟩⟩ := hrel
  cases gk with
  | zero => exact absurd HA.1 (by simp [region_Right.l0])
  | succ k1 =>
   have H := HA.1; clear HA; simp only [region_Right.l0] at H
   by_cases c2 : x7_1 < (l0.length : Int)
   ·rw [if_pos c2] at H; have c2b0 : decide (x7_1 < (l0.length : Int)) = true := decide_eq_true c2; clear c2
    by_cases c3 : 0 ≤ x7_1
    ·rw [if_pos c3] at H; have c3b0 : decide (0 ≤ x7_1) = true := decide_eq_true c3; clear c3
     by_cases c4 : x7_1 < (l0.length : Int)
     ·rw [if_pos c4] at H; have c4b0 : decide (x7_1 < (l0.length : Int)) = true := decide_eq_true c4; clear c4; replace H := Option.bind_eq_some_iff.mp H; obtain ⟨t206, A50, H⟩ := H
      replace H : (if t206 = true then (if x7_1 > 0 then (if 0 ≤ (wrap64 (x7_1 - 1)) then (if (wrap64 (x7_1 - 1)) < (l0.length : Int) then (if (rd l0 (wrap64 (x7_1 - 1))) ≥ (rd l0 x7_1) then (some false) else (region_Right.l0 k1 l0 l0 (l0.length : Int) (wrap64 (x7_1 + 1)))) else (none)) else (none)) else (region_Right.l0 k1 l0 l0 (l0.length : Int) (wrap64 (x7_1 + 1)))) else (some false)) = some r := H
      have A5 := ak A50; clear A50
      by_cases c6 : t206 = true
      ·subst c6
       have H1 : (if x7_1 > 0 then (if 0 ≤ (wrap64 (x7_1 - 1)) then (if (wrap64 (x7_1 - 1)) < (l0.length : Int) then (if (rd l0 (wrap64 (x7_1 - 1))) ≥ (rd l0 x7_1) then (some false) else (region_Right.l0 k1 l0 l0 (l0.length : Int) (wrap64 (x7_1 + 1)))) else (none)) else (none)) else (region_Right.l0 k1 l0 l0 (l0.length : Int) (wrap64 (x7_1 + 1)))) = some r := by rw [if_pos rfl] at H; exact H
       clear H; have H := H1; clear H1
       by_cases c7 : x7_1 > 0
       ·rw [if_pos c7] at H; have c7b0 : decide (0 < x7_1) = true := decide_eq_true c7; clear c7; obtain ⟨ji8, hji8⟩ : ∃ j_ : Int, (wrap64 (x7_1 - 1)) = j_ := ⟨_, rfl⟩
        replace H : (if 0 ≤ (ji8) then (if (ji8) < (l0.length : Int) then (if (rd l0 (ji8)) ≥ (rd l0 x7_1) then (some false) else (region_Right.l0 k1 l0 l0 (l0.length : Int) (wrap64 (x7_1 + 1)))) else (none)) else (none)) = some r := by first | (rw [hji8] at H; exact H) | (simp only [hji8] at H ⊢; exact H)
        (try rw [hji8] at A5); have hji8w : (IntKind.i64.wrap (x7_1 - 1)) = ji8 := (i64_w _).trans hji8
        by_cases c9 : 0 ≤ (ji8)
        ·rw [if_pos c9] at H; have c9b0 : decide (0 ≤ (ji8)) = true := decide_eq_true c9; clear c9
         by_cases c10 : (ji8) < (l0.length : Int)
         ·rw [if_pos c10] at H; have c10b0 : decide ((ji8) < (l0.length : Int)) = true := decide_eq_true c10; clear c10
          by_cases c11 : (rd l0 (ji8)) ≥ (rd l0 x7_1)
          ·rw [if_pos c11] at H; have c11b0 : decide ((rd l0 x7_1) ≤ (rd l0 (ji8))) = true := decide_eq_true c11; clear c11; obtain rfl := Option.some.inj H; have p205 : 0 ≤ (x7_1 : Int) := of_decide_eq_true (as_); have q205 : x7_1 < (l0.length : Int) := of_decide_eq_true (as_); obtain ⟨ad205, e205, hx205_0⟩ := Kd.at_int HR0.1 x7_1 p205 q205
           cases e205
           replace p205 := eq_true p205; replace q205 := eq_true q205
           go_wp2_with (first | ((with_reducible refine gate_callee (f := 75) rfl ?_); refine goesL_ (some 13) rfl rfl Try.func75 (by kernel_rfl) rfl #[.int .i64 (rd l0 x7_1)] rfl (sm_) ?_; (with_reducible refine (region_isCell.calls (rd l0 x7_1) true _ A5.1).mono ?_); rintro e w' ⟨rfl, ⟨nd, rfl⟩⟩; refine ⟨_, rfl, ?_⟩; have p207 : 0 ≤ ((ji8) : Int) := of_decide_eq_true (as_); have q207 : (ji8) < (l0.length : Int) := of_decide_eq_true (as_); obtain ⟨ad207, e207, hx207_0⟩ := Kd.at_int HR0.1 (ji8) p207 q207; obtain rfl : ad205 = ad207 := (by injection e207); replace p207 := eq_true p207; replace q207 := eq_true q207))
           go_ret
           exact ⟨by first | rfl | (simp; done) | (simp only [← hji8] <;> (first | rfl | simp)) | (simp [*]; done), by repeat (first | exact Drawn0.refl _ | apply Drawn0.step)⟩
          ·rw [if_neg c11] at H; have c11b0 : decide ((rd l0 x7_1) ≤ (rd l0 (ji8))) = false := decide_eq_false c11; clear c11; have H' := ak H; clear H; have p205 : 0 ≤ (x7_1 : Int) := of_decide_eq_true (as_); have q205 : x7_1 < (l0.length : Int) := of_decide_eq_true (as_); obtain ⟨ad205, e205, hx205_0⟩ := Kd.at_int HR0.1 x7_1 p205 q205
           cases e205
           replace p205 := eq_true p205; replace q205 := eq_true q205
           go_wp2_with (first | ((with_reducible refine gate_callee (f := 75) rfl ?_); refine goesL_ (some 13) rfl rfl Try.func75 (by kernel_rfl) rfl #[.int .i64 (rd l0 x7_1)] rfl (sm_) ?_; (with_reducible refine (region_isCell.calls (rd l0 x7_1) true _ A5.1).mono ?_); rintro e w' ⟨rfl, ⟨nd, rfl⟩⟩; refine ⟨_, rfl, ?_⟩; have p207 : 0 ≤ ((ji8) : Int) := of_decide_eq_true (as_); have q207 : (ji8) < (l0.length : Int) := of_decide_eq_true (as_); obtain ⟨ad207, e207, hx207_0⟩ := Kd.at_int HR0.1 (ji8) p207 q207; obtain rfl : ad205 = ad207 := (by injection e207); replace p207 := eq_true p207; replace q207 := eq_true q207))
           go_roundg k1
           case measure => have := HK1.1; omega
           case rel => exact ⟨(wrap64 (x7_1 + 1)), (by first | rfl | (simp; done) | (simp [*]; done)), H', ⟨by have := HK1.1; omega⟩, by repeat (first | exact Drawn0.refl _ | apply Drawn0.step)⟩
         ·rw [if_neg c10] at H; exact absurd H (by simp)
        ·rw [if_neg c9] at H; exact absurd H (by simp)
       ·rw [if_neg c7] at H; have c7b0 : decide (0 < x7_1) = false := decide_eq_false c7; clear c7; have H' := ak H; clear H; have p205 : 0 ≤ (x7_1 : Int) := of_decide_eq_true (as_); have q205 : x7_1 < (l0.length : Int) := of_decide_eq_true (as_); obtain ⟨ad205, e205, hx205_0⟩ := Kd.at_int HR0.1 x7_1 p205 q205
        cases e205
        replace p205 := eq_true p205; replace q205 := eq_true q205
        go_wp2_with (first | ((with_reducible refine gate_callee (f := 75) rfl ?_); refine goesL_ (some 13) rfl rfl Try.func75 (by kernel_rfl) rfl #[.int .i64 (rd l0 x7_1)] rfl (sm_) ?_; (with_reducible refine (region_isCell.calls (rd l0 x7_1) true _ A5.1).mono ?_); rintro e w' ⟨rfl, ⟨nd, rfl⟩⟩; refine ⟨_, rfl, ?_⟩))
        go_roundg k1
        case measure => have := HK1.1; omega
        case rel => exact ⟨(wrap64 (x7_1 + 1)), (by first | rfl | (simp; done) | (simp [*]; done)), H', ⟨by have := HK1.1; omega⟩, by repeat (first | exact Drawn0.refl _ | apply Drawn0.step)⟩
      ·replace c6 := Bool.eq_false_iff.mpr c6; subst c6
       have H1 : (some false) = some r := by rw [if_neg (show ¬ (false = true) by decide)] at H; exact H
       clear H; have H := H1; clear H1; obtain rfl := Option.some.inj H; have p205 : 0 ≤ (x7_1 : Int) := of_decide_eq_true (as_); have q205 : x7_1 < (l0.length : Int) := of_decide_eq_true (as_); obtain ⟨ad205, e205, hx205_0⟩ := Kd.at_int HR0.1 x7_1 p205 q205
       cases e205
       replace p205 := eq_true p205; replace q205 := eq_true q205
       go_wp2_with (first | ((with_reducible refine gate_callee (f := 75) rfl ?_); refine goesL_ (some 13) rfl rfl Try.func75 (by kernel_rfl) rfl #[.int .i64 (rd l0 x7_1)] rfl (sm_) ?_; (with_reducible refine (region_isCell.calls (rd l0 x7_1) false _ A5.1).mono ?_); rintro e w' ⟨rfl, ⟨nd, rfl⟩⟩; refine ⟨_, rfl, ?_⟩))
       go_ret
       exact ⟨by first | rfl | (simp; done) | (simp [*]; done), by repeat (first | exact Drawn0.refl _ | apply Drawn0.step)⟩
     ·rw [if_neg c4] at H; exact absurd H (by simp)
    ·rw [if_neg c3] at H; exact absurd H (by simp)
   ·rw [if_neg c2] at H; have c2b0 : decide (x7_1 < (l0.length : Int)) = false := decide_eq_false c2; clear c2; obtain rfl := Option.some.inj H
    go_wp2
    go_ret
    exact ⟨by first | rfl | (simp; done) | (simp [*]; done), by repeat (first | exact Drawn0.refl _ | apply Drawn0.step)⟩
def layout_Right.f (l0_0 : List Bool) (a0_1 : Int) : Option (Bool) := if (l0_0.length : Int) ≥ 1 then (if (l0_0.length : Int) ≤ 24 then (if a0_1 ≥ 0 then (if a0_1 < (l0_0.length : Int) then (if 0 ≤ a0_1 then (some (rdOf false l0_0 a0_1)) else (none)) else (some false)) else (some false)) else (some false)) else (some false)
set_option maxHeartbeats 8000000 in
set_option maxRecDepth 100000 in
theorem layout_Right.calls (A0_0 : Option Addr) (c0_0 : Nat) (l0_0 : List Bool) (a0_1 : Int) (r : Bool) (w : World) (hr0_0 : Kd.C Kd.bool w A0_0 l0_0.length l0_0) (hc0_0 : l0_0.length ≤ c0_0) (h : layout_Right.f l0_0 a0_1 = some r) :
  Calls Try.prog 70 #[.agg #[.slice A0_0 l0_0.length c0_0, .int .i64 a0_1]] w fun e w' => e = .returned (.bool r) ∧ Below w.heap.size w w' := by
 have hu27 := Try.underlying27; have HR0_0 := ak hr0_0; have HC0_0 := ak hc0_0; clear hr0_0 hc0_0; have HB := ak (Below.refl w.heap.size w); have H : (if (l0_0.length : Int) ≥ 1 then (if (l0_0.length : Int) ≤ 24 then (if a0_1 ≥ 0 then (if a0_1 < (l0_0.length : Int) then (if 0 ≤ a0_1 then (some (rdOf false l0_0 a0_1)) else (none)) else (some false)) else (some false)) else (some false)) else (some false)) = some r := h; clear h
 by_cases c2 : (l0_0.length : Int) ≥ 1
 ·rw [if_pos c2] at H; have c2b0 : decide (1 ≤ (l0_0.length : Int)) = true := decide_eq_true c2; have c2b1 : decide (1 ≤ l0_0.length) = true := decide_eq_true (by omega); clear c2
  by_cases c3 : (l0_0.length : Int) ≤ 24
  ·rw [if_pos c3] at H; have c3b0 : decide ((l0_0.length : Int) ≤ 24) = true := decide_eq_true c3; have c3b1 : decide (l0_0.length ≤ 24) = true := decide_eq_true (by omega); clear c3
   by_cases c4 : a0_1 ≥ 0
   ·rw [if_pos c4] at H; have c4b0 : decide (0 ≤ a0_1) = true := decide_eq_true c4; clear c4
    by_cases c5 : a0_1 < (l0_0.length : Int)
    ·rw [if_pos c5] at H; have c5b0 : decide (a0_1 < (l0_0.length : Int)) = true := decide_eq_true c5; clear c5
     by_cases c6 : 0 ≤ a0_1
     ·rw [if_pos c6] at H; have c6b0 : decide (0 ≤ a0_1) = true := decide_eq_true c6; clear c6; obtain rfl := Option.some.inj H
      go_enter Try.func70, Try.ntmps70
      go_wp2_with (first | ((with_reducible refine gate_dst (N := 1) rfl ?_); refine box_event ?hg (N := 1) ?hd (cs := #[.slice A0_0 l0_0.length c0_0, .int .i64 a0_1]) (t := 27) ?hr ?_; (case hd => rfl); (case hg => rfl); (case hr => first | (go_simp; done) | (go_simp; rfl)); intro gb208 hg w7 hbox hb; have n0_ := ak (below_step (hq0_ HB.1) hb); have n1_ := ak (hbox); have n2_ := ak ((by rw [hg]; exact (below_size (hq0_ HB.1)) : w.heap.size ≤ gb208)); have n3_ := ak ((by rw [hg]; exact (below_size (hq0_ HB.1)) : w.heap.size ≤ gb208)); clear HB; have HB := n0_; have BK208 := n1_; have GW208 := n2_; have GE208 := n3_; clear n0_ n1_ n2_ n3_; clear hb hbox hg; have hcz8_0 : w7.cell? ⟨gb208, 0, none⟩ = some (.slice A0_0 l0_0.length c0_0) := (blk_cell BK208.1 0).trans rfl; have hcz8_1 : w7.cell? ⟨gb208, 1, none⟩ = some (.int .i64 a0_1) := (blk_cell BK208.1 1).trans rfl; have hfz8_0 := blk_frozen BK208.1 0; have hfz8_1 := blk_frozen BK208.1 1; have p209 : 0 ≤ (a0_1 : Int) := of_decide_eq_true (as_); have q209 : a0_1 < (l0_0.length : Int) := of_decide_eq_true (as_); obtain ⟨ad209, e209, hx209_0⟩ := Kd.at_bool HR0_0.1 a0_1 p209 q209; cases e209; replace hx209_0 := (HB.1.cell (World.block_lt_of_cell? w _ hx209_0)).trans hx209_0; replace p209 := eq_true p209; replace q209 := eq_true q209))
      go_ret
      exact ⟨er_, hq1_ HB.1 GE208.1⟩
     ·rw [if_neg c6] at H; exact absurd H (by simp)
    ·rw [if_neg c5] at H; have c5b0 : decide (a0_1 < (l0_0.length : Int)) = false := decide_eq_false c5; clear c5; obtain rfl := Option.some.inj H
     go_enter Try.func70, Try.ntmps70
     go_wp2_with (first | ((with_reducible refine gate_dst (N := 1) rfl ?_); refine box_event ?hg (N := 1) ?hd (cs := #[.slice A0_0 l0_0.length c0_0, .int .i64 a0_1]) (t := 27) ?hr ?_; (case hd => rfl); (case hg => rfl); (case hr => first | (go_simp; done) | (go_simp; rfl)); intro gb208 hg w9 hbox hb; have n0_ := ak (below_step (hq0_ HB.1) hb); have n1_ := ak (hbox); have n2_ := ak ((by rw [hg]; exact (below_size (hq0_ HB.1)) : w.heap.size ≤ gb208)); have n3_ := ak ((by rw [hg]; exact (below_size (hq0_ HB.1)) : w.heap.size ≤ gb208)); clear HB; have HB := n0_; have BK208 := n1_; have GW208 := n2_; have GE208 := n3_; clear n0_ n1_ n2_ n3_; clear hb hbox hg; have hcz10_0 : w9.cell? ⟨gb208, 0, none⟩ = some (.slice A0_0 l0_0.length c0_0) := (blk_cell BK208.1 0).trans rfl; have hcz10_1 : w9.cell? ⟨gb208, 1, none⟩ = some (.int .i64 a0_1) := (blk_cell BK208.1 1).trans rfl; have hfz10_0 := blk_frozen BK208.1 0; have hfz10_1 := blk_frozen BK208.1 1))
     go_ret
     exact ⟨er_, hq1_ HB.1 GE208.1⟩
   ·rw [if_neg c4] at H; have c4b0 : decide (0 ≤ a0_1) = false := decide_eq_false c4; clear c4; obtain rfl := Option.some.inj H
    go_enter Try.func70, Try.ntmps70
    go_wp2_with (first | ((with_reducible refine gate_dst (N := 1) rfl ?_); refine box_event ?hg (N := 1) ?hd (cs := #[.slice A0_0 l0_0.length c0_0, .int .i64 a0_1]) (t := 27) ?hr ?_; (case hd => rfl); (case hg => rfl); (case hr => first | (go_simp; done) | (go_simp; rfl)); intro gb208 hg w11 hbox hb; have n0_ := ak (below_step (hq0_ HB.1) hb); have n1_ := ak (hbox); have n2_ := ak ((by rw [hg]; exact (below_size (hq0_ HB.1)) : w.heap.size ≤ gb208)); have n3_ := ak ((by rw [hg]; exact (below_size (hq0_ HB.1)) : w.heap.size ≤ gb208)); clear HB; have HB := n0_; have BK208 := n1_; have GW208 := n2_; have GE208 := n3_; clear n0_ n1_ n2_ n3_; clear hb hbox hg; have hcz12_0 : w11.cell? ⟨gb208, 0, none⟩ = some (.slice A0_0 l0_0.length c0_0) := (blk_cell BK208.1 0).trans rfl; have hcz12_1 : w11.cell? ⟨gb208, 1, none⟩ = some (.int .i64 a0_1) := (blk_cell BK208.1 1).trans rfl; have hfz12_0 := blk_frozen BK208.1 0; have hfz12_1 := blk_frozen BK208.1 1))
    go_ret
    exact ⟨er_, hq1_ HB.1 GE208.1⟩
  ·rw [if_neg c3] at H; have c3b0 : decide ((l0_0.length : Int) ≤ 24) = false := decide_eq_false c3; have c3b1 : decide (l0_0.length ≤ 24) = false := decide_eq_false (by omega); clear c3; obtain rfl := Option.some.inj H
   go_enter Try.func70, Try.ntmps70
   go_wp2_with (first | ((with_reducible refine gate_dst (N := 1) rfl ?_); refine box_event ?hg (N := 1) ?hd (cs := #[.slice A0_0 l0_0.length c0_0, .int .i64 a0_1]) (t := 27) ?hr ?_; (case hd => rfl); (case hg => rfl); (case hr => first | (go_simp; done) | (go_simp; rfl)); intro gb208 hg w13 hbox hb; have n0_ := ak (below_step (hq0_ HB.1) hb); have n1_ := ak (hbox); have n2_ := ak ((by rw [hg]; exact (below_size (hq0_ HB.1)) : w.heap.size ≤ gb208)); have n3_ := ak ((by rw [hg]; exact (below_size (hq0_ HB.1)) : w.heap.size ≤ gb208)); clear HB; have HB := n0_; have BK208 := n1_; have GW208 := n2_; have GE208 := n3_; clear n0_ n1_ n2_ n3_; clear hb hbox hg; have hcz14_0 : w13.cell? ⟨gb208, 0, none⟩ = some (.slice A0_0 l0_0.length c0_0) := (blk_cell BK208.1 0).trans rfl; have hcz14_1 : w13.cell? ⟨gb208, 1, none⟩ = some (.int .i64 a0_1) := (blk_cell BK208.1 1).trans rfl; have hfz14_0 := blk_frozen BK208.1 0; have hfz14_1 := blk_frozen BK208.1 1))
   go_ret
   exact ⟨er_, hq1_ HB.1 GE208.1⟩
 ·rw [if_neg c2] at H; have c2b0 : decide (1 ≤ (l0_0.length : Int)) = false := decide_eq_false c2; have c2b1 : decide (1 ≤ l0_0.length) = false := decide_eq_false (by omega); clear c2; obtain rfl := Option.some.inj H
  go_enter Try.func70, Try.ntmps70
  go_wp2_with (first | ((with_reducible refine gate_dst (N := 1) rfl ?_); refine box_event ?hg (N := 1) ?hd (cs := #[.slice A0_0 l0_0.length c0_0, .int .i64 a0_1]) (t := 27) ?hr ?_; (case hd => rfl); (case hg => rfl); (case hr => first | (go_simp; done) | (go_simp; rfl)); intro gb208 hg w15 hbox hb; have n0_ := ak (below_step (hq0_ HB.1) hb); have n1_ := ak (hbox); have n2_ := ak ((by rw [hg]; exact (below_size (hq0_ HB.1)) : w.heap.size ≤ gb208)); have n3_ := ak ((by rw [hg]; exact (below_size (hq0_ HB.1)) : w.heap.size ≤ gb208)); clear HB; have HB := n0_; have BK208 := n1_; have GW208 := n2_; have GE208 := n3_; clear n0_ n1_ n2_ n3_; clear hb hbox hg; have hcz16_0 : w15.cell? ⟨gb208, 0, none⟩ = some (.slice A0_0 l0_0.length c0_0) := (blk_cell BK208.1 0).trans rfl; have hcz16_1 : w15.cell? ⟨gb208, 1, none⟩ = some (.int .i64 a0_1) := (blk_cell BK208.1 1).trans rfl; have hfz16_0 := blk_frozen BK208.1 0; have hfz16_1 := blk_frozen BK208.1 1))
  go_ret
  exact ⟨er_, hq1_ HB.1 GE208.1⟩
def taquinlaw27_given.j0 : Nat → List Int → Bool → Int → Int → Int → List Int → List Int → Option (Bool)
 | 0, _, _, _, _, _, _, _ => none
 | k + 1, x1, x30, x211000, x211001, x211002, x211003, x211004 => if x30 = true then (some false) else ((floor_Right.f k x211000 x211001 x211002 x211003 x211004).bind fun t214 => (if t214 = true then ((region_Right.f k x1).bind fun t215 => (some t215)) else (some false)))
def taquinlaw27_given.f (k : Nat) (a0_0 : Int) (a0_1 : Int) (a0_2 : Int) (l0_3 : List Int) (l0_4 : List Int) (l1 : List Int) (l2_0 : List Bool) (a2_1 : Int) (a3 : Int) : Option (Bool) := (taquinref07_Few.f a0_0 a0_1 a0_2 l0_3 l0_4 60).bind fun t212 => (if t212 = true then (if (l1.length : Int) > a3 then (taquinlaw27_given.j0 k l1 true a0_0 a0_1 a0_2 l0_3 l0_4) else (if (l2_0.length : Int) = (l1.length : Int) then ((layout_Right.f l2_0 a2_1).bind fun t213 => (taquinlaw27_given.j0 k l1 (!t213) a0_0 a0_1 a0_2 l0_3 l0_4)) else (taquinlaw27_given.j0 k l1 true a0_0 a0_1 a0_2 l0_3 l0_4))) else (taquinlaw27_given.j0 k l1 true a0_0 a0_1 a0_2 l0_3 l0_4))
set_option maxHeartbeats 8000000 in
set_option maxRecDepth 100000 in
theorem taquinlaw27_given.calls (k : Nat) (a0_0 : Int) (a0_1 : Int) (a0_2 : Int) (A0_3 : Option Addr) (c0_3 : Nat) (l0_3 : List Int) (A0_4 : Option Addr) (c0_4 : Nat) (l0_4 : List Int) (A1 : Option Addr) (c1 : Nat) (l1 : List Int) (A2_0 : Option Addr) (c2_0 : Nat) (l2_0 : List Bool) (a2_1 : Int) (a3 : Int) (r : Bool) (w : World) (hr0_3 : Kd.C (Kd.int .i64) w A0_3 l0_3.length l0_3) (hc0_3 : l0_3.length ≤ c0_3) (hr0_4 : Kd.C (Kd.int .i64) w A0_4 l0_4.length l0_4) (hc0_4 : l0_4.length ≤ c0_4) (hr1 : Kd.C (Kd.int .i64) w A1 l1.length l1) (hc1 : l1.length ≤ c1) (hr2_0 : Kd.C Kd.bool w A2_0 l2_0.length l2_0) (hc2_0 : l2_0.length ≤ c2_0) (h : taquinlaw27_given.f k a0_0 a0_1 a0_2 l0_3 l0_4 l1 l2_0 a2_1 a3 = some r) :
  Calls Try.prog 35 #[.agg #[.int .i64 a0_0, .int .i64 a0_1, .int .i64 a0_2, .slice A0_3 l0_3.length c0_3, .slice A0_4 l0_4.length c0_4], .slice A1 l1.length c1, .agg #[.slice A2_0 l2_0.length c2_0, .int .i64 a2_1], .int .i64 a3] w fun e w' => e = .returned (.bool r) ∧ Below w.heap.size w w' := by
 have hu24 := Try.underlying24; have hu27 := Try.underlying27; have HR0_3 := ak hr0_3; have HC0_3 := ak hc0_3; clear hr0_3 hc0_3; have HR0_4 := ak hr0_4; have HC0_4 := ak hc0_4; clear hr0_4 hc0_4; have HR1 := ak hr1; have HC1 := ak hc1; clear hr1 hc1; have HR2_0 := ak hr2_0; have HC2_0 := ak hc2_0; clear hr2_0 hc2_0; have HB := ak (Below.refl w.heap.size w); have H : ((taquinref07_Few.f a0_0 a0_1 a0_2 l0_3 l0_4 60).bind fun t212 => (if t212 = true then (if (l1.length : Int) > a3 then (taquinlaw27_given.j0 k l1 true a0_0 a0_1 a0_2 l0_3 l0_4) else (if (l2_0.length : Int) = (l1.length : Int) then ((layout_Right.f l2_0 a2_1).bind fun t213 => (taquinlaw27_given.j0 k l1 (!t213) a0_0 a0_1 a0_2 l0_3 l0_4)) else (taquinlaw27_given.j0 k l1 true a0_0 a0_1 a0_2 l0_3 l0_4))) else (taquinlaw27_given.j0 k l1 true a0_0 a0_1 a0_2 l0_3 l0_4))) = some r := h; clear h; have HC5 := ak H; clear H
 go_enter Try.func35, Try.ntmps35
 go_upto_region 1 with (first | ((with_reducible refine gate_dst (N := 4) rfl ?_); (try (refine gate_guard (by rfl) ?_; dsimp only)); refine box_event ?hg (N := 4) ?hd (cs := #[.int .i64 a0_0, .int .i64 a0_1, .int .i64 a0_2, .slice A0_3 l0_3.length c0_3, .slice A0_4 l0_4.length c0_4]) (t := 24) ?hr ?_; (case hd => rfl); (case hg => rfl); (case hr => first | (go_simp; done) | (go_simp; rfl)); intro gb210 hg w6 hbox hb; have n0_ := ak (below_step (hq0_ HB.1) hb); have n1_ := ak (hbox); have n2_ := ak ((by rw [hg]; exact (below_size (hq0_ HB.1)) : w.heap.size ≤ gb210)); have n3_ := ak ((by rw [hg]; exact (below_size (hq0_ HB.1)) : w.heap.size ≤ gb210)); clear HB; have HB := n0_; have BK210 := n1_; have GW210 := n2_; have GE210 := n3_; clear n0_ n1_ n2_ n3_; clear hb hbox hg) | ((with_reducible refine gate_dst (N := 6) rfl ?_); (try (refine gate_guard (by rfl) ?_; dsimp only)); refine box_event ?hg (N := 6) ?hd (cs := #[.slice A2_0 l2_0.length c2_0, .int .i64 a2_1]) (t := 27) ?hr ?_; (case hd => rfl); (case hg => rfl); (case hr => first | (go_simp; done) | (go_simp; rfl)); intro gb211 hg w7 hbox hb; have n0_ := ak (blk_below (g := gb210) (o := .cells #[.int .i64 a0_0, .int .i64 a0_1, .int .i64 a0_2, .slice A0_3 l0_3.length c0_3, .slice A0_4 l0_4.length c0_4] 24 (0, 0)) (bq_ BK210.1) hb); have n1_ := ak (below_step (hq1_ HB.1 GE210.1) hb); have n2_ := ak (hbox); have n3_ := ak ((by rw [hg]; exact (below_size (hq1_ HB.1 GE210.1)) : w.heap.size ≤ gb211)); have n4_ := ak ((by rw [hg]; exact (below_size (hq1_ HB.1 GE210.1)) : w.heap.size ≤ gb211)); have n5_ := ak ((by rw [hg]; exact Nat.ne_of_lt (blk_lt (g := gb210) (o := .cells #[.int .i64 a0_0, .int .i64 a0_1, .int .i64 a0_2, .slice A0_3 l0_3.length c0_3, .slice A0_4 l0_4.length c0_4] 24 (0, 0)) (bq_ BK210.1)) : gb210 ≠ gb211)); have n6_ := ak ((by rw [hg]; exact Nat.ne_of_gt (blk_lt (g := gb210) (o := .cells #[.int .i64 a0_0, .int .i64 a0_1, .int .i64 a0_2, .slice A0_3 l0_3.length c0_3, .slice A0_4 l0_4.length c0_4] 24 (0, 0)) (bq_ BK210.1)) : gb211 ≠ gb210)); clear BK210; clear HB; have BK210 := n0_; have HB := n1_; have BK211 := n2_; have GW211 := n3_; have GE211 := n4_; have NB210_211 := n5_; have NB211_210 := n6_; clear n0_ n1_ n2_ n3_ n4_ n5_ n6_; clear hb hbox hg))
 (try simp only [Act.put, List.setIfInBounds_toArray, List.set_cons_zero, List.set_cons_succ])
 go_cut [30] (fun v30 wc => ∃ (kq : Nat) (x30_4 : Bool), v30 = .bool x30_4 ∧ Aside0 (taquinlaw27_given.j0 kq l1 x30_4 a0_0 a0_1 a0_2 l0_3 l0_4 = some r) ∧ Aside0 (kq ≤ k) ∧ Aside0 (wc.heap[gb210]? = some (.cells #[.int .i64 a0_0, .int .i64 a0_1, .int .i64 a0_2, (.slice A0_3 l0_3.length c0_3), (.slice A0_4 l0_4.length c0_4)] 24 (0, 0))) ∧ Aside0 (wc.heap[gb211]? = some (.cells #[(.slice A2_0 l2_0.length c2_0), .int .i64 a2_1] 27 (0, 0))) ∧ Aside0 (Below w.heap.size w wc))
 case first =>
  have H := HC5.1; clear HC5; replace H := Option.bind_eq_some_iff.mp H; obtain ⟨t212, A80, H⟩ := H
  replace H : (if t212 = true then (if (l1.length : Int) > a3 then (taquinlaw27_given.j0 k l1 true a0_0 a0_1 a0_2 l0_3 l0_4) else (if (l2_0.length : Int) = (l1.length : Int) then ((layout_Right.f l2_0 a2_1).bind fun t213 => (taquinlaw27_given.j0 k l1 (!t213) a0_0 a0_1 a0_2 l0_3 l0_4)) else (taquinlaw27_given.j0 k l1 true a0_0 a0_1 a0_2 l0_3 l0_4))) else (taquinlaw27_given.j0 k l1 true a0_0 a0_1 a0_2 l0_3 l0_4)) = some r := H
  have A8 := ak A80; clear A80
  by_cases c9 : t212 = true
  ·subst c9
   have H1 : (if (l1.length : Int) > a3 then (taquinlaw27_given.j0 k l1 true a0_0 a0_1 a0_2 l0_3 l0_4) else (if (l2_0.length : Int) = (l1.length : Int) then ((layout_Right.f l2_0 a2_1).bind fun t213 => (taquinlaw27_given.j0 k l1 (!t213) a0_0 a0_1 a0_2 l0_3 l0_4)) else (taquinlaw27_given.j0 k l1 true a0_0 a0_1 a0_2 l0_3 l0_4))) = some r := by rw [if_pos rfl] at H; exact H
   clear H; have H := H1; clear H1
   by_cases c10 : (l1.length : Int) > a3
   ·rw [if_pos c10] at H; have c10b0 : decide (a3 < (l1.length : Int)) = true := decide_eq_true c10; clear c10; (first | rw [c10b0] | (simp only [i64_w, i32_w]; rw [c10b0]) | skip); have H' := ak H; clear H; have hnb11 := NB210_211.1; have hnc11 := NB211_210.1; have hcz12_0 : w7.cell? ⟨gb210, 0, none⟩ = some (.int .i64 a0_0) := (blk_cell BK210.1 0).trans rfl; have hcz12_1 : w7.cell? ⟨gb210, 1, none⟩ = some (.int .i64 a0_1) := (blk_cell BK210.1 1).trans rfl; have hcz12_2 : w7.cell? ⟨gb210, 2, none⟩ = some (.int .i64 a0_2) := (blk_cell BK210.1 2).trans rfl; have hcz12_3 : w7.cell? ⟨gb210, 3, none⟩ = some (.slice A0_3 l0_3.length c0_3) := (blk_cell BK210.1 3).trans rfl; have hcz12_4 : w7.cell? ⟨gb210, 4, none⟩ = some (.slice A0_4 l0_4.length c0_4) := (blk_cell BK210.1 4).trans rfl; have hfz12_0 := blk_frozen BK210.1 0; have hfz12_1 := blk_frozen BK210.1 1; have hfz12_2 := blk_frozen BK210.1 2; have hfz12_3 := blk_frozen BK210.1 3; have hfz12_4 := blk_frozen BK210.1 4
    go_wp2_with (first | ((with_reducible refine gate_callee (f := 24) rfl ?_); refine goesL_ (some 10) rfl rfl Try.func24 (by kernel_rfl) rfl #[.agg #[.int .i64 a0_0, .int .i64 a0_1, .int .i64 a0_2, .slice A0_3 l0_3.length c0_3, .slice A0_4 l0_4.length c0_4], .int .i64 60] rfl (sm_) ?_; (with_reducible refine (taquinref07_Few.calls a0_0 a0_1 a0_2 _ _ l0_3 _ _ l0_4 60 true _ ?side1 ?side2 ?side3 ?side4 A8.1).mono ?_); (case side1 => repeat (first | exact (Kd.C_below HR0_3.1 HB.1) | (with_reducible refine Kd.C_alloc ?_ _) | (with_reducible refine Kd.C_drewN ?_ _) | (with_reducible refine Kd.C_drew ?_))); (case side2 => exact HC0_3.1); (case side3 => repeat (first | exact (Kd.C_below HR0_4.1 HB.1) | (with_reducible refine Kd.C_alloc ?_ _) | (with_reducible refine Kd.C_drewN ?_ _) | (with_reducible refine Kd.C_drew ?_))); (case side4 => exact HC0_4.1); rintro e w13 ⟨rfl, hb⟩; refine ⟨_, rfl, ?_⟩; have n0_ := ak (blk_below (g := gb210) (o := .cells #[.int .i64 a0_0, .int .i64 a0_1, .int .i64 a0_2, .slice A0_3 l0_3.length c0_3, .slice A0_4 l0_4.length c0_4] 24 (0, 0)) (bq_ BK210.1) hb); have n1_ := ak (blk_below (g := gb211) (o := .cells #[.slice A2_0 l2_0.length c2_0, .int .i64 a2_1] 27 (0, 0)) (bq_ BK211.1) hb); have n2_ := ak (below_step (hq2_ HB.1 GE210.1 GE211.1) hb); clear BK210; clear BK211; clear HB; have BK210 := n0_; have BK211 := n1_; have HB := n2_; clear n0_ n1_ n2_; (try clear hb); (try clear hb2); (try clear hk); (try clear hi)))
    go_meet
    case rel => exact ⟨_, (true), (by first | rfl | (simp; done) | (simp [*]; done)), H', ⟨by first | omega | exact Nat.le_refl _⟩, ⟨by (with_reducible repeat (first | refine blk_drewN ?_ _ | refine blk_drew ?_ | refine blk_alloc ?_ _)); exact BK210.1⟩, ⟨by (with_reducible repeat (first | refine blk_drewN ?_ _ | refine blk_drew ?_ | refine blk_alloc ?_ _)); exact BK211.1⟩, ⟨hq2_ HB.1 GE210.1 GE211.1⟩⟩
   ·rw [if_neg c10] at H; have c10b0 : decide (a3 < (l1.length : Int)) = false := decide_eq_false c10; clear c10; (first | rw [c10b0] | (simp only [i64_w, i32_w]; rw [c10b0]) | skip)
    by_cases c14 : (l2_0.length : Int) = (l1.length : Int)
    ·rw [if_pos c14] at H; have c14b0 : ((l2_0.length : Int) == (l1.length : Int)) = true := beq_iff_eq.mpr c14; have c14b1 : ((l2_0.length : Int) != (l1.length : Int)) = false := bne_eq_false_iff_eq.mpr c14
     have c14b2 : (l2_0.length == l1.length) = true := by first | simpa using c14 | (simp at c14 ⊢; omega)
     clear c14; replace H := Option.bind_eq_some_iff.mp H; obtain ⟨t213, A150, H⟩ := H
     replace H : (taquinlaw27_given.j0 k l1 (!t213) a0_0 a0_1 a0_2 l0_3 l0_4) = some r := H
     have A15 := ak A150; clear A150; have H' := ak H; clear H; have hnb16 := NB210_211.1; have hnc16 := NB211_210.1; have hcz17_0 : w7.cell? ⟨gb210, 0, none⟩ = some (.int .i64 a0_0) := (blk_cell BK210.1 0).trans rfl; have hcz17_1 : w7.cell? ⟨gb210, 1, none⟩ = some (.int .i64 a0_1) := (blk_cell BK210.1 1).trans rfl; have hcz17_2 : w7.cell? ⟨gb210, 2, none⟩ = some (.int .i64 a0_2) := (blk_cell BK210.1 2).trans rfl; have hcz17_3 : w7.cell? ⟨gb210, 3, none⟩ = some (.slice A0_3 l0_3.length c0_3) := (blk_cell BK210.1 3).trans rfl; have hcz17_4 : w7.cell? ⟨gb210, 4, none⟩ = some (.slice A0_4 l0_4.length c0_4) := (blk_cell BK210.1 4).trans rfl; have hfz17_0 := blk_frozen BK210.1 0; have hfz17_1 := blk_frozen BK210.1 1; have hfz17_2 := blk_frozen BK210.1 2; have hfz17_3 := blk_frozen BK210.1 3; have hfz17_4 := blk_frozen BK210.1 4
     go_wp2_with (first | ((with_reducible refine gate_callee (f := 24) rfl ?_); refine goesL_ (some 10) rfl rfl Try.func24 (by kernel_rfl) rfl #[.agg #[.int .i64 a0_0, .int .i64 a0_1, .int .i64 a0_2, .slice A0_3 l0_3.length c0_3, .slice A0_4 l0_4.length c0_4], .int .i64 60] rfl (sm_) ?_; (with_reducible refine (taquinref07_Few.calls a0_0 a0_1 a0_2 _ _ l0_3 _ _ l0_4 60 true _ ?side1 ?side2 ?side3 ?side4 A8.1).mono ?_); (case side1 => repeat (first | exact (Kd.C_below HR0_3.1 HB.1) | (with_reducible refine Kd.C_alloc ?_ _) | (with_reducible refine Kd.C_drewN ?_ _) | (with_reducible refine Kd.C_drew ?_))); (case side2 => exact HC0_3.1); (case side3 => repeat (first | exact (Kd.C_below HR0_4.1 HB.1) | (with_reducible refine Kd.C_alloc ?_ _) | (with_reducible refine Kd.C_drewN ?_ _) | (with_reducible refine Kd.C_drew ?_))); (case side4 => exact HC0_4.1); rintro e w18 ⟨rfl, hb⟩; refine ⟨_, rfl, ?_⟩; have n0_ := ak (blk_below (g := gb210) (o := .cells #[.int .i64 a0_0, .int .i64 a0_1, .int .i64 a0_2, .slice A0_3 l0_3.length c0_3, .slice A0_4 l0_4.length c0_4] 24 (0, 0)) (bq_ BK210.1) hb); have n1_ := ak (blk_below (g := gb211) (o := .cells #[.slice A2_0 l2_0.length c2_0, .int .i64 a2_1] 27 (0, 0)) (bq_ BK211.1) hb); have n2_ := ak (below_step (hq2_ HB.1 GE210.1 GE211.1) hb); clear BK210; clear BK211; clear HB; have BK210 := n0_; have BK211 := n1_; have HB := n2_; clear n0_ n1_ n2_; (try clear hb); (try clear hb2); (try clear hk); (try clear hi); have hcz19_0 : w18.cell? ⟨gb211, 0, none⟩ = some (.slice A2_0 l2_0.length c2_0) := (blk_cell BK211.1 0).trans rfl; have hcz19_1 : w18.cell? ⟨gb211, 1, none⟩ = some (.int .i64 a2_1) := (blk_cell BK211.1 1).trans rfl; have hfz19_0 := blk_frozen BK211.1 0; have hfz19_1 := blk_frozen BK211.1 1) | (go_at_call 70; (with_reducible refine (layout_Right.calls _ _ l2_0 a2_1 t213 _ ?side1 ?side2 A15.1).mono ?_); (case side1 => repeat (first | exact (Kd.C_below HR2_0.1 HB.1) | (with_reducible refine Kd.C_alloc ?_ _) | (with_reducible refine Kd.C_drewN ?_ _) | (with_reducible refine Kd.C_drew ?_))); (case side2 => exact HC2_0.1); rintro e w20 ⟨rfl, hb⟩; have n0_ := ak (blk_below (g := gb210) (o := .cells #[.int .i64 a0_0, .int .i64 a0_1, .int .i64 a0_2, .slice A0_3 l0_3.length c0_3, .slice A0_4 l0_4.length c0_4] 24 (0, 0)) (bq_ BK210.1) hb); have n1_ := ak (blk_below (g := gb211) (o := .cells #[.slice A2_0 l2_0.length c2_0, .int .i64 a2_1] 27 (0, 0)) (bq_ BK211.1) hb); have n2_ := ak (below_step (hq2_ HB.1 GE210.1 GE211.1) hb); clear BK210; clear BK211; clear HB; have BK210 := n0_; have BK211 := n1_; have HB := n2_; clear n0_ n1_ n2_; (try clear hb); (try clear hb2); (try clear hk); (try clear hi)))
     go_meet
     case rel => exact ⟨_, (!t213), (by first | rfl | (simp; done) | (simp [*]; done)), H', ⟨by first | omega | exact Nat.le_refl _⟩, ⟨by (with_reducible repeat (first | refine blk_drewN ?_ _ | refine blk_drew ?_ | refine blk_alloc ?_ _)); exact BK210.1⟩, ⟨by (with_reducible repeat (first | refine blk_drewN ?_ _ | refine blk_drew ?_ | refine blk_alloc ?_ _)); exact BK211.1⟩, ⟨hq2_ HB.1 GE210.1 GE211.1⟩⟩
    ·rw [if_neg c14] at H; have c14b0 : ((l2_0.length : Int) == (l1.length : Int)) = false := beq_eq_false_iff_ne.mpr c14; have c14b1 : ((l2_0.length : Int) != (l1.length : Int)) = true := bne_iff_ne.mpr c14
     have c14b2 : (l2_0.length == l1.length) = false := by first | simpa using c14 | (simp at c14 ⊢; omega)
     have H' := ak H; clear H; have hnb21 := NB210_211.1; have hnc21 := NB211_210.1; have hcz22_0 : w7.cell? ⟨gb210, 0, none⟩ = some (.int .i64 a0_0) := (blk_cell BK210.1 0).trans rfl; have hcz22_1 : w7.cell? ⟨gb210, 1, none⟩ = some (.int .i64 a0_1) := (blk_cell BK210.1 1).trans rfl; have hcz22_2 : w7.cell? ⟨gb210, 2, none⟩ = some (.int .i64 a0_2) := (blk_cell BK210.1 2).trans rfl; have hcz22_3 : w7.cell? ⟨gb210, 3, none⟩ = some (.slice A0_3 l0_3.length c0_3) := (blk_cell BK210.1 3).trans rfl; have hcz22_4 : w7.cell? ⟨gb210, 4, none⟩ = some (.slice A0_4 l0_4.length c0_4) := (blk_cell BK210.1 4).trans rfl; have hfz22_0 := blk_frozen BK210.1 0; have hfz22_1 := blk_frozen BK210.1 1; have hfz22_2 := blk_frozen BK210.1 2; have hfz22_3 := blk_frozen BK210.1 3; have hfz22_4 := blk_frozen BK210.1 4
     go_wp2_with (first | ((with_reducible refine gate_callee (f := 24) rfl ?_); refine goesL_ (some 10) rfl rfl Try.func24 (by kernel_rfl) rfl #[.agg #[.int .i64 a0_0, .int .i64 a0_1, .int .i64 a0_2, .slice A0_3 l0_3.length c0_3, .slice A0_4 l0_4.length c0_4], .int .i64 60] rfl (sm_) ?_; (with_reducible refine (taquinref07_Few.calls a0_0 a0_1 a0_2 _ _ l0_3 _ _ l0_4 60 true _ ?side1 ?side2 ?side3 ?side4 A8.1).mono ?_); (case side1 => repeat (first | exact (Kd.C_below HR0_3.1 HB.1) | (with_reducible refine Kd.C_alloc ?_ _) | (with_reducible refine Kd.C_drewN ?_ _) | (with_reducible refine Kd.C_drew ?_))); (case side2 => exact HC0_3.1); (case side3 => repeat (first | exact (Kd.C_below HR0_4.1 HB.1) | (with_reducible refine Kd.C_alloc ?_ _) | (with_reducible refine Kd.C_drewN ?_ _) | (with_reducible refine Kd.C_drew ?_))); (case side4 => exact HC0_4.1); rintro e w23 ⟨rfl, hb⟩; refine ⟨_, rfl, ?_⟩; have n0_ := ak (blk_below (g := gb210) (o := .cells #[.int .i64 a0_0, .int .i64 a0_1, .int .i64 a0_2, .slice A0_3 l0_3.length c0_3, .slice A0_4 l0_4.length c0_4] 24 (0, 0)) (bq_ BK210.1) hb); have n1_ := ak (blk_below (g := gb211) (o := .cells #[.slice A2_0 l2_0.length c2_0, .int .i64 a2_1] 27 (0, 0)) (bq_ BK211.1) hb); have n2_ := ak (below_step (hq2_ HB.1 GE210.1 GE211.1) hb); clear BK210; clear BK211; clear HB; have BK210 := n0_; have BK211 := n1_; have HB := n2_; clear n0_ n1_ n2_; (try clear hb); (try clear hb2); (try clear hk); (try clear hi); have hcz24_0 : w23.cell? ⟨gb211, 0, none⟩ = some (.slice A2_0 l2_0.length c2_0) := (blk_cell BK211.1 0).trans rfl; have hcz24_1 : w23.cell? ⟨gb211, 1, none⟩ = some (.int .i64 a2_1) := (blk_cell BK211.1 1).trans rfl; have hfz24_0 := blk_frozen BK211.1 0; have hfz24_1 := blk_frozen BK211.1 1))
     go_meet
     case rel => exact ⟨_, (true), (by first | rfl | (simp; done) | (simp [*]; done)), H', ⟨by first | omega | exact Nat.le_refl _⟩, ⟨by (with_reducible repeat (first | refine blk_drewN ?_ _ | refine blk_drew ?_ | refine blk_alloc ?_ _)); exact BK210.1⟩, ⟨by (with_reducible repeat (first | refine blk_drewN ?_ _ | refine blk_drew ?_ | refine blk_alloc ?_ _)); exact BK211.1⟩, ⟨hq2_ HB.1 GE210.1 GE211.1⟩⟩
  ·replace c9 := Bool.eq_false_iff.mpr c9; subst c9
   have H1 : (taquinlaw27_given.j0 k l1 true a0_0 a0_1 a0_2 l0_3 l0_4) = some r := by rw [if_neg (show ¬ (false = true) by decide)] at H; exact H
   clear H; have H := H1; clear H1; have H' := ak H; clear H; have hnb25 := NB210_211.1; have hnc25 := NB211_210.1; have hcz26_0 : w7.cell? ⟨gb210, 0, none⟩ = some (.int .i64 a0_0) := (blk_cell BK210.1 0).trans rfl; have hcz26_1 : w7.cell? ⟨gb210, 1, none⟩ = some (.int .i64 a0_1) := (blk_cell BK210.1 1).trans rfl; have hcz26_2 : w7.cell? ⟨gb210, 2, none⟩ = some (.int .i64 a0_2) := (blk_cell BK210.1 2).trans rfl; have hcz26_3 : w7.cell? ⟨gb210, 3, none⟩ = some (.slice A0_3 l0_3.length c0_3) := (blk_cell BK210.1 3).trans rfl; have hcz26_4 : w7.cell? ⟨gb210, 4, none⟩ = some (.slice A0_4 l0_4.length c0_4) := (blk_cell BK210.1 4).trans rfl; have hfz26_0 := blk_frozen BK210.1 0; have hfz26_1 := blk_frozen BK210.1 1; have hfz26_2 := blk_frozen BK210.1 2; have hfz26_3 := blk_frozen BK210.1 3; have hfz26_4 := blk_frozen BK210.1 4
   go_wp2_with (first | ((with_reducible refine gate_callee (f := 24) rfl ?_); refine goesL_ (some 10) rfl rfl Try.func24 (by kernel_rfl) rfl #[.agg #[.int .i64 a0_0, .int .i64 a0_1, .int .i64 a0_2, .slice A0_3 l0_3.length c0_3, .slice A0_4 l0_4.length c0_4], .int .i64 60] rfl (sm_) ?_; (with_reducible refine (taquinref07_Few.calls a0_0 a0_1 a0_2 _ _ l0_3 _ _ l0_4 60 false _ ?side1 ?side2 ?side3 ?side4 A8.1).mono ?_); (case side1 => repeat (first | exact (Kd.C_below HR0_3.1 HB.1) | (with_reducible refine Kd.C_alloc ?_ _) | (with_reducible refine Kd.C_drewN ?_ _) | (with_reducible refine Kd.C_drew ?_))); (case side2 => exact HC0_3.1); (case side3 => repeat (first | exact (Kd.C_below HR0_4.1 HB.1) | (with_reducible refine Kd.C_alloc ?_ _) | (with_reducible refine Kd.C_drewN ?_ _) | (with_reducible refine Kd.C_drew ?_))); (case side4 => exact HC0_4.1); rintro e w27 ⟨rfl, hb⟩; refine ⟨_, rfl, ?_⟩; have n0_ := ak (blk_below (g := gb210) (o := .cells #[.int .i64 a0_0, .int .i64 a0_1, .int .i64 a0_2, .slice A0_3 l0_3.length c0_3, .slice A0_4 l0_4.length c0_4] 24 (0, 0)) (bq_ BK210.1) hb); have n1_ := ak (blk_below (g := gb211) (o := .cells #[.slice A2_0 l2_0.length c2_0, .int .i64 a2_1] 27 (0, 0)) (bq_ BK211.1) hb); have n2_ := ak (below_step (hq2_ HB.1 GE210.1 GE211.1) hb); clear BK210; clear BK211; clear HB; have BK210 := n0_; have BK211 := n1_; have HB := n2_; clear n0_ n1_ n2_; (try clear hb); (try clear hb2); (try clear hk); (try clear hi)))
   go_meet
   case rel => exact ⟨_, (true), (by first | rfl | (simp; done) | (simp [*]; done)), H', ⟨by first | omega | exact Nat.le_refl _⟩, ⟨by (with_reducible repeat (first | refine blk_drewN ?_ _ | refine blk_drew ?_ | refine blk_alloc ?_ _)); exact BK210.1⟩, ⟨by (with_reducible repeat (first | refine blk_drewN ?_ _ | refine blk_drew ?_ | refine blk_alloc ?_ _)); exact BK211.1⟩, ⟨hq2_ HB.1 GE210.1 GE211.1⟩⟩
 case rest =>
  clear HC5; (try clear c1); (try clear c2); (try clear p2); (try clear c3); (try clear c9); (try clear c10); (try clear c10b0); (try clear c11); (try clear c14); (try clear c14b0); (try clear c14b1); (try clear c14b2); (try clear c16); (try clear c21); (try clear c24); (try clear c25); (try clear hcz12_0); (try clear hcz12_1); (try clear hcz12_2); (try clear hcz12_3); (try clear hcz12_4); (try clear hcz17_0); (try clear hcz17_1); (try clear hcz17_2); (try clear hcz17_3); (try clear hcz17_4); (try clear hcz19_0); (try clear hcz19_1); (try clear hcz22_0); (try clear hcz22_1); (try clear hcz22_2); (try clear hcz22_3); (try clear hcz22_4); (try clear hcz24_0); (try clear hcz24_1); (try clear hcz26_0); (try clear hcz26_1); (try clear hcz26_2); (try clear hcz26_3); (try clear hcz26_4); (try clear hfz12_0); (try clear hfz12_1); (try clear hfz12_2); (try clear hfz12_3); (try clear hfz12_4); (try clear hfz17_0); (try clear hfz17_1); (try clear hfz17_2); (try clear hfz17_3); (try clear hfz17_4); (try clear hfz19_0); (try clear hfz19_1); (try clear hfz22_0); (try clear hfz22_1); (try clear hfz22_2); (try clear hfz22_3); (try clear hfz22_4); (try clear hfz24_0); (try clear hfz24_1); (try clear hfz26_0); (try clear hfz26_1); (try clear hfz26_2); (try clear hfz26_3); (try clear hfz26_4); obtain ⟨kq, x30_4, rfl, HA, HJ4, BK210, BK211, HB⟩ := hcut
  cases kq with
  | zero => exact absurd HA.1 (by simp [taquinlaw27_given.j0])
  | succ kj4 =>
   have H := HA.1; clear HA; simp only [taquinlaw27_given.j0] at H
   by_cases c28 : x30_4 = true
   ·subst c28
    have H1 : (some false) = some r := by rw [if_pos rfl] at H; exact H
    clear H; have H := H1; clear H1; obtain rfl := Option.some.inj H
    go_wp2
    go_ret
    exact ⟨er_, hq2_ HB.1 GE210.1 GE211.1⟩
   ·replace c28 := Bool.eq_false_iff.mpr c28; subst c28
    have H1 : ((floor_Right.f kj4 a0_0 a0_1 a0_2 l0_3 l0_4).bind fun t214 => (if t214 = true then ((region_Right.f kj4 l1).bind fun t215 => (some t215)) else (some false))) = some r := by rw [if_neg (show ¬ (false = true) by decide)] at H; exact H
    clear H; have H := H1; clear H1; replace H := Option.bind_eq_some_iff.mp H; obtain ⟨t214, A290, H⟩ := H
    replace H : (if t214 = true then ((region_Right.f kj4 l1).bind fun t215 => (some t215)) else (some false)) = some r := H
    have A29 := ak A290; clear A290
    by_cases c30 : t214 = true
    ·subst c30
     have H1 : ((region_Right.f kj4 l1).bind fun t215 => (some t215)) = some r := by rw [if_pos rfl] at H; exact H
     clear H; have H := H1; clear H1; replace H := Option.bind_eq_some_iff.mp H; obtain ⟨t215, A310, H⟩ := H
     replace H : (some t215) = some r := H
     have A31 := ak A310; clear A310; obtain rfl := Option.some.inj H; have hnb32 := NB210_211.1; have hnc32 := NB211_210.1; have hcz33_0 : wc.cell? ⟨gb210, 0, none⟩ = some (.int .i64 a0_0) := (blk_cell BK210.1 0).trans rfl; have hcz33_1 : wc.cell? ⟨gb210, 1, none⟩ = some (.int .i64 a0_1) := (blk_cell BK210.1 1).trans rfl; have hcz33_2 : wc.cell? ⟨gb210, 2, none⟩ = some (.int .i64 a0_2) := (blk_cell BK210.1 2).trans rfl; have hcz33_3 : wc.cell? ⟨gb210, 3, none⟩ = some (.slice A0_3 l0_3.length c0_3) := (blk_cell BK210.1 3).trans rfl; have hcz33_4 : wc.cell? ⟨gb210, 4, none⟩ = some (.slice A0_4 l0_4.length c0_4) := (blk_cell BK210.1 4).trans rfl; have hfz33_0 := blk_frozen BK210.1 0; have hfz33_1 := blk_frozen BK210.1 1; have hfz33_2 := blk_frozen BK210.1 2; have hfz33_3 := blk_frozen BK210.1 3; have hfz33_4 := blk_frozen BK210.1 4
     go_wp2_with (first | ((with_reducible refine gate_callee (f := 46) rfl ?_); refine goesL_ (some 32) rfl rfl Try.func46 (by kernel_rfl) rfl #[.agg #[.int .i64 a0_0, .int .i64 a0_1, .int .i64 a0_2, .slice A0_3 l0_3.length c0_3, .slice A0_4 l0_4.length c0_4]] rfl (sm_) ?_; (with_reducible refine (floor_Right.calls kj4 a0_0 a0_1 a0_2 _ _ l0_3 _ _ l0_4 true _ ?side1 ?side2 ?side3 ?side4 A29.1).mono ?_); (case side1 => repeat (first | exact (Kd.C_below HR0_3.1 HB.1) | (with_reducible refine Kd.C_alloc ?_ _) | (with_reducible refine Kd.C_drewN ?_ _) | (with_reducible refine Kd.C_drew ?_))); (case side2 => exact HC0_3.1); (case side3 => repeat (first | exact (Kd.C_below HR0_4.1 HB.1) | (with_reducible refine Kd.C_alloc ?_ _) | (with_reducible refine Kd.C_drewN ?_ _) | (with_reducible refine Kd.C_drew ?_))); (case side4 => exact HC0_4.1); rintro e w34 ⟨rfl, hb⟩; refine ⟨_, rfl, ?_⟩; have n0_ := ak (blk_below (g := gb210) (o := .cells #[.int .i64 a0_0, .int .i64 a0_1, .int .i64 a0_2, .slice A0_3 l0_3.length c0_3, .slice A0_4 l0_4.length c0_4] 24 (0, 0)) (bq_ BK210.1) hb); have n1_ := ak (blk_below (g := gb211) (o := .cells #[.slice A2_0 l2_0.length c2_0, .int .i64 a2_1] 27 (0, 0)) (bq_ BK211.1) hb); have n2_ := ak (below_step (hq2_ HB.1 GE210.1 GE211.1) hb); clear BK210; clear BK211; clear HB; have BK210 := n0_; have BK211 := n1_; have HB := n2_; clear n0_ n1_ n2_; (try clear hb); (try clear hb2); (try clear hk); (try clear hi)) | (go_at_call 47; (with_reducible refine (region_Right.calls kj4 _ _ l1 t215 _ ?side1 ?side2 A31.1).mono ?_); (case side1 => repeat (first | exact (Kd.C_below HR1.1 HB.1) | (with_reducible refine Kd.C_alloc ?_ _) | (with_reducible refine Kd.C_drewN ?_ _) | (with_reducible refine Kd.C_drew ?_))); (case side2 => exact HC1.1); rintro e w' ⟨rfl, ⟨nd, rfl⟩⟩))
     go_ret
     exact ⟨er_, hq2_ HB.1 GE210.1 GE211.1⟩
    ·replace c30 := Bool.eq_false_iff.mpr c30; subst c30
     have H1 : (some false) = some r := by rw [if_neg (show ¬ (false = true) by decide)] at H; exact H
     clear H; have H := H1; clear H1; obtain rfl := Option.some.inj H; have hnb35 := NB210_211.1; have hnc35 := NB211_210.1; have hcz36_0 : wc.cell? ⟨gb210, 0, none⟩ = some (.int .i64 a0_0) := (blk_cell BK210.1 0).trans rfl; have hcz36_1 : wc.cell? ⟨gb210, 1, none⟩ = some (.int .i64 a0_1) := (blk_cell BK210.1 1).trans rfl; have hcz36_2 : wc.cell? ⟨gb210, 2, none⟩ = some (.int .i64 a0_2) := (blk_cell BK210.1 2).trans rfl; have hcz36_3 : wc.cell? ⟨gb210, 3, none⟩ = some (.slice A0_3 l0_3.length c0_3) := (blk_cell BK210.1 3).trans rfl; have hcz36_4 : wc.cell? ⟨gb210, 4, none⟩ = some (.slice A0_4 l0_4.length c0_4) := (blk_cell BK210.1 4).trans rfl; have hfz36_0 := blk_frozen BK210.1 0; have hfz36_1 := blk_frozen BK210.1 1; have hfz36_2 := blk_frozen BK210.1 2; have hfz36_3 := blk_frozen BK210.1 3; have hfz36_4 := blk_frozen BK210.1 4
     go_wp2_with (first | ((with_reducible refine gate_callee (f := 46) rfl ?_); refine goesL_ (some 32) rfl rfl Try.func46 (by kernel_rfl) rfl #[.agg #[.int .i64 a0_0, .int .i64 a0_1, .int .i64 a0_2, .slice A0_3 l0_3.length c0_3, .slice A0_4 l0_4.length c0_4]] rfl (sm_) ?_; (with_reducible refine (floor_Right.calls kj4 a0_0 a0_1 a0_2 _ _ l0_3 _ _ l0_4 false _ ?side1 ?side2 ?side3 ?side4 A29.1).mono ?_); (case side1 => repeat (first | exact (Kd.C_below HR0_3.1 HB.1) | (with_reducible refine Kd.C_alloc ?_ _) | (with_reducible refine Kd.C_drewN ?_ _) | (with_reducible refine Kd.C_drew ?_))); (case side2 => exact HC0_3.1); (case side3 => repeat (first | exact (Kd.C_below HR0_4.1 HB.1) | (with_reducible refine Kd.C_alloc ?_ _) | (with_reducible refine Kd.C_drewN ?_ _) | (with_reducible refine Kd.C_drew ?_))); (case side4 => exact HC0_4.1); rintro e w37 ⟨rfl, hb⟩; refine ⟨_, rfl, ?_⟩; have n0_ := ak (blk_below (g := gb210) (o := .cells #[.int .i64 a0_0, .int .i64 a0_1, .int .i64 a0_2, .slice A0_3 l0_3.length c0_3, .slice A0_4 l0_4.length c0_4] 24 (0, 0)) (bq_ BK210.1) hb); have n1_ := ak (blk_below (g := gb211) (o := .cells #[.slice A2_0 l2_0.length c2_0, .int .i64 a2_1] 27 (0, 0)) (bq_ BK211.1) hb); have n2_ := ak (below_step (hq2_ HB.1 GE210.1 GE211.1) hb); clear BK210; clear BK211; clear HB; have BK210 := n0_; have BK211 := n1_; have HB := n2_; clear n0_ n1_ n2_; (try clear hb); (try clear hb2); (try clear hk); (try clear hi)))
     go_ret
     exact ⟨er_, hq2_ HB.1 GE210.1 GE211.1⟩
end Go.Proofs.Ytogmjilaiopjmaa.P
end
section
namespace Go.Proofs.Ytogmjilaiopjmaa.P
def only (t i : Nat) (l : List Bool) : List Bool := l.mapIdx fun k b => if k < i then b else decide (k = t)
def chsGo (f : Nat → List Bool → List (List Bool)) (t : Nat) : Nat → Nat → List Bool → List (List Bool)
 | 0, _, _ => []
 | m + 1, i, l => if l.getD i false = true ∧ i ≠ t then f (i + 1) l ++ chsGo f t m (i + 1) (l.set i false) else chsGo f t m (i + 1) l
def chs (t : Nat) : Nat → Nat → List Bool → List (List Bool)
 | 0, i, l => [only t i l]
 | j + 1, i, l => chsGo (chs t j) t (l.length - i) i l
theorem only_length (t i : Nat) (l : List Bool) : (only t i l).length = l.length := by simp [only]
end Go.Proofs.Ytogmjilaiopjmaa.P
end
section
namespace Go.Proofs.Ytogmjilaiopjmaa.P
open Go.RowKit Go.Proofs.YtogmjilaiopjmaaW.PrintWords Go.Proofs.YtogmjilaiopjmaaW.PrintLast Go.Proofs.YtogmjilaiopjmaaW.PrintMore
attribute [local go_sem] max2_int min2_int max_two min_two max_three min_three max_four min_four
def bits_Mul64.f (a0 : Int) (a1 : Int) : Option (Int × Int) := some (IntKind.u64.wrap ((IntKind.u64.wrap ((IntKind.u64.wrap ((a0 / 4294967296) * (a1 / 4294967296))) + ((IntKind.u64.wrap ((IntKind.u64.wrap ((a0 / 4294967296) * (Go.bits .and .u64 a1 4294967295))) + ((IntKind.u64.wrap ((Go.bits .and .u64 a0 4294967295) * (Go.bits .and .u64 a1 4294967295))) / 4294967296))) / 4294967296))) + ((IntKind.u64.wrap ((Go.bits .and .u64 (IntKind.u64.wrap ((IntKind.u64.wrap ((a0 / 4294967296) * (Go.bits .and .u64 a1 4294967295))) + ((IntKind.u64.wrap ((Go.bits .and .u64 a0 4294967295) * (Go.bits .and .u64 a1 4294967295))) / 4294967296))) 4294967295) + (IntKind.u64.wrap ((Go.bits .and .u64 a0 4294967295) * (a1 / 4294967296))))) / 4294967296)), IntKind.u64.wrap (a0 * a1))
set_option maxHeartbeats 8000000 in
set_option maxRecDepth 100000 in
theorem bits_Mul64.calls (a0 : Int) (a1 : Int) (r1 : Int) (r2 : Int) (w : World) (h : bits_Mul64.f a0 a1 = some (r1, r2)) :
  Calls Try.prog 124 #[.int .u64 a0, .int .u64 a1] w fun e w' => e = .returned (.tuple #[.int .u64 r1, .int .u64 r2]) ∧ Drawn0 w w' := by
 have H : (some (IntKind.u64.wrap ((IntKind.u64.wrap ((IntKind.u64.wrap ((a0 / 4294967296) * (a1 / 4294967296))) + ((IntKind.u64.wrap ((IntKind.u64.wrap ((a0 / 4294967296) * (Go.bits .and .u64 a1 4294967295))) + ((IntKind.u64.wrap ((Go.bits .and .u64 a0 4294967295) * (Go.bits .and .u64 a1 4294967295))) / 4294967296))) / 4294967296))) + ((IntKind.u64.wrap ((Go.bits .and .u64 (IntKind.u64.wrap ((IntKind.u64.wrap ((a0 / 4294967296) * (Go.bits .and .u64 a1 4294967295))) + ((IntKind.u64.wrap ((Go.bits .and .u64 a0 4294967295) * (Go.bits .and .u64 a1 4294967295))) / 4294967296))) 4294967295) + (IntKind.u64.wrap ((Go.bits .and .u64 a0 4294967295) * (a1 / 4294967296))))) / 4294967296)), IntKind.u64.wrap (a0 * a1))) = some (r1, r2) := h; clear h; simp only [Option.some.injEq, Prod.mk.injEq] at H; obtain ⟨rfl, rfl⟩ := H
 go_enter Try.func124, Try.ntmps124
 go_wp2
 go_ret2
 exact ⟨by first | rfl | (simp; done) | (simp [*]; done), by repeat (first | exact Drawn0.refl _ | apply Drawn0.step)⟩
def bits_Mul.f (a0 : Int) (a1 : Int) : Option (Int × Int) := (bits_Mul64.f a0 a1).bind fun bt147 => (some (bt147.1, bt147.2))
set_option maxHeartbeats 8000000 in
set_option maxRecDepth 100000 in
theorem bits_Mul.calls (a0 : Int) (a1 : Int) (r1 : Int) (r2 : Int) (w : World) (h : bits_Mul.f a0 a1 = some (r1, r2)) :
  Calls Try.prog 101 #[.int .u64 a0, .int .u64 a1] w fun e w' => e = .returned (.tuple #[.int .u64 r1, .int .u64 r2]) ∧ Drawn0 w w' := by
 have H : ((bits_Mul64.f a0 a1).bind fun bt147 => (some (bt147.1, bt147.2))) = some (r1, r2) := h; clear h; replace H := Option.bind_eq_some_iff.mp H; obtain ⟨⟨t147, t148⟩, A30, H⟩ := H
 replace H : (some (t147, t148)) = some (r1, r2) := H
 have A3 := ak A30; clear A30; simp only [Option.some.injEq, Prod.mk.injEq] at H; obtain ⟨rfl, rfl⟩ := H
 go_enter Try.func101, Try.ntmps101
 go_wp2_with (first | ((with_reducible refine gate_callee (f := 124) rfl ?_); refine goesL_ (some 25) rfl rfl Try.func124 (by kernel_rfl) rfl #[.int .u64 a0, .int .u64 a1] rfl (sm_) ?_; (with_reducible refine (bits_Mul64.calls a0 a1 t147 t148 _ A3.1).mono ?_); rintro e w' ⟨rfl, ⟨nd, rfl⟩⟩; refine ⟨_, rfl, ?_⟩))
 go_ret2
 exact ⟨by first | rfl | (simp; done) | (simp [*]; done), by repeat (first | exact Drawn0.refl _ | apply Drawn0.step)⟩
end Go.Proofs.Ytogmjilaiopjmaa.P
end
