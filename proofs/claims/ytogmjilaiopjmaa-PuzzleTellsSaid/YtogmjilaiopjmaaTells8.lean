/- Lemmas for the row of this claim: contracts of the functions that it reaches, and plain laws about numbers and lists. -/
import Derived.Test.YtogmjilaiopjmaaTells7
import Derived.WalkSpells
set_option linter.unusedVariables false
set_option linter.unusedSimpArgs false
section
namespace Go.Proofs.Ytogmjilaiopjmaa.P
open Go.RowKit Go.Proofs.YtogmjilaiopjmaaW.PrintWords Go.Proofs.YtogmjilaiopjmaaW.PrintLast Go.Proofs.YtogmjilaiopjmaaW.PrintMore
def slices_Clone_bool_bool.f (l : List Bool) : Option (List Bool) := if l.length ≤ 1000000 then some l else none
theorem none_empty {α : Type} {d : Kd α} {w : World} {n : Nat} {l : List α} (h : Kd.C d w none n l) : n = 0 := by
 rcases Nat.eq_zero_or_pos n with h0 | h0
 ·exact h0
 ·obtain ⟨ad, e, _⟩ := h.2.2 h0
  cases e
set_option maxHeartbeats 1000000 in
set_option maxRecDepth 100000 in
theorem slices_Clone_bool_bool.calls (A0 : Option Addr) (c0 : Nat) (l0 : List Bool) (r : List Bool) (w : World) (hr0 : Kd.C Kd.bool w A0 l0.length l0) (hc0 : l0.length ≤ c0) (h : slices_Clone_bool_bool.f l0 = some r) :
  Calls Try.prog 66 #[.slice A0 l0.length c0] w fun e w' => ∃ v0_ : Value, e = .returned (v0_) ∧ Kd.R Kd.bool 4 w' w.heap.size (fun _ => True) v0_ r ∧ Below w.heap.size w w' := by
 unfold slices_Clone_bool_bool.f at h
 have hl : l0.length ≤ 1000000 := by
  by_cases e : l0.length ≤ 1000000
  ·exact e
  ·rw [if_neg e] at h; cases h
 rw [if_pos hl] at h; obtain rfl := Option.some.inj h; clear h; have heq := fun (W : World) => Lib.run_eql_slice_nil (P := Try.prog) W 25 4 A0 l0.length c0 0 0 Try.underlying25
 cases A0 with
 | none =>
  have HL0 := ak (none_empty hr0); have HL := ak (List.eq_nil_of_length_eq_zero HL0.1); clear hr0 hc0 hl
  go_enter Try.func66, Try.ntmps66
  go_wp2
  go_ret
  exact ⟨_, rfl, by rw [HL.1]; exact Kd.R_nil _ _ _ _ _, Below.refl _ _⟩
 | some ad =>
  have HR0 := ak hr0; have HC0 := ak hc0; have HL := ak hl; clear hr0 hc0 hl
  go_enter Try.func66, Try.ntmps66
  go_wp2_with (first | ((with_reducible refine gate_dst (N := 5) rfl ?_); refine Kd.R_lit Kd.bool (w0 := w) w.heap.size 4 ?hg (N := 5) ?hd (xs := ([] : List Bool)) (inner := []) (ok := fun _ => True) (okp := fun _ => True) ?hr ?hp (fun _ hk => hk) trivial (Below.refl _ _) (Nat.le_refl _) (by simp) ?_; (case hd => rfl); (case hg => rfl); (case hr => first | (go_simp; done) | (go_simp; rfl)); (case hp => exact (Reps.none _ _)); intro v5 w5 ho hb hg hat; have HO := ak ho; have HB := ak hb; clear ho hb hg hat) | (at_builtin; refine Kd.R_append_row Value.bool false (h1 := fun _ => rfl) (w0 := w) w.heap.size rfl _ _ 25 4 (.bool false) 1 rfl Try.underlying25 info4 rfl (by decide) v5 [] l0 (some ad) l0.length c0 (fun _ => True) rfl rfl (fun _ _ => trivial) HO.1 (Kd.C_below HR0.1 HB.1) HB.1 HB.1.size (by have := HL.1; simp; omega) ?_; intro v7 w7 ho hb hg hat; have HO7 := ak ho; have HB7 := ak hb; clear ho hb hg hat))
  go_ret
  exact ⟨_, rfl, HO7.1, HB7.1⟩
set_option maxHeartbeats 2000000 in
set_option maxRecDepth 100000 in
theorem do_range (A : Option Addr) (c : Nat) (l : List Bool) (t p q : Int) (w : World) (hl : l.length ≤ 1000000) (h : p < 0 ∨ (l.length : Int) ≤ p ∨ q < 0 ∨ (l.length : Int) ≤ q) :
  Calls Try.prog 30 #[.agg #[.slice A l.length c, .int .i64 t], .agg #[.int .i64 p, .int .i64 q]] w fun e w' => ∃ v0_ : Value, e = .returned (.tuple #[.agg #[v0_, .int .i64 0], .int .i64 3]) ∧ Kd.R Kd.bool 4 w' w.heap.size (fun _ => True) v0_ [] ∧ Below w.heap.size w w' := by
 have hu27 := Try.underlying27; have hu51 := Try.underlying51; have HB := ak (Below.refl w.heap.size w); have HH := ak h; have HLL := ak hl; clear h hl
 go_enter Try.func30, Try.ntmps30
 go_upto_region 1 with (first | ((with_reducible refine gate_dst (N := 2) rfl ?_); refine box_event ?hg (N := 2) ?hd (cs := #[.slice A l.length c, .int .i64 t]) (t := 27) ?hr ?_; (case hd => rfl); (case hg => rfl); (case hr => first | (go_simp; done) | (go_simp; rfl)); intro g2 hg w2 hbox hb; have GE2 := ak (show w.heap.size ≤ g2 by have := HB.1.size; omega); have n_HB := ak (below_step HB.1 hb); clear HB; have HB := n_HB; clear n_HB; have BK2 := ak hbox; clear hbox hb hg) | ((with_reducible refine gate_dst (N := 3) rfl ?_); refine box_event ?hg (N := 3) ?hd (cs := #[.int .i64 p, .int .i64 q]) (t := 51) ?hr ?_; (case hd => rfl); (case hg => rfl); (case hr => first | (go_simp; done) | (go_simp; rfl)); intro g3 hg w3 hbox hb; have GE3 := ak (show w.heap.size ≤ g3 by have := HB.1.size; omega); have NE3_2 := ak (show g3 ≠ g2 by have := blk_lt BK2.1; omega); have n_BK2 := ak (blk_below BK2.1 hb); have n_HB := ak (below_step HB.1 hb); clear BK2; clear HB; have BK2 := n_BK2; have HB := n_HB; clear n_BK2 n_HB; have BK3 := ak hbox; clear hbox hb hg) | ((with_reducible refine gate_dst (N := 4) rfl ?_); refine box_event ?hg (N := 4) ?hd (cs := #[.slice none 0 0, .int .i64 0]) (t := 27) ?hr ?_; (case hd => rfl); (case hg => rfl); (case hr => first | (go_simp; done) | (go_simp; rfl)); intro g4 hg w4 hbox hb; have GE4 := ak (show w.heap.size ≤ g4 by have := HB.1.size; omega); have NE4_2 := ak (show g4 ≠ g2 by have := blk_lt BK2.1; omega); have NE4_3 := ak (show g4 ≠ g3 by have := blk_lt BK3.1; omega); have n_BK2 := ak (blk_below BK2.1 hb); have n_BK3 := ak (blk_below BK3.1 hb); have n_HB := ak (below_step HB.1 hb); clear BK2; clear BK3; clear HB; have BK2 := n_BK2; have BK3 := n_BK3; have HB := n_HB; clear n_BK2 n_BK3 n_HB; have BK4 := ak hbox; clear hbox hb hg))
 have e20 := blk_cell BK2.1 0; have e21 := blk_cell BK2.1 1; have f20 := blk_frozen BK2.1 0; have f21 := blk_frozen BK2.1 1; have e30 := blk_cell BK3.1 0; have e31 := blk_cell BK3.1 1; have e40 := blk_cell BK4.1 0; have e41 := blk_cell BK4.1 1; have f40 := blk_frozen BK4.1 0; have f41 := blk_frozen BK4.1 1
 try simp at e20 e21 e30 e31 e40 e41
 by_cases h1 : p < 0
 ·have x1 : decide (p < 0) = true := decide_eq_true h1; clear h1
  go_wp2
  refine bodyPost_ret (results_ct rfl _ _ g4 27 #[.slice none 0 0, .int .i64 0] (0, 0) _ rfl (by refine blk_put (cs := #[.slice none 0 0, .int .i64 0]) ?_ 1 _ rfl; refine blk_put (cs := #[.slice none 0 0, .int .i64 0]) ?_ 0 _ rfl; exact BK4.1) Try.underlying27 rfl (by kernel_rfl)) rfl ?_; exact ⟨_, rfl, Kd.R_nil _ _ _ _ _, below_set (below_set HB.1 GE4.1) GE4.1⟩
 have x1 : decide (p < 0) = false := decide_eq_false h1
 by_cases h2 : (l.length : Int) ≤ p
 ·have x2 : decide (p ≥ (l.length : Int)) = true := decide_eq_true h2; clear h1 h2
  go_wp2
  refine bodyPost_ret (results_ct rfl _ _ g4 27 #[.slice none 0 0, .int .i64 0] (0, 0) _ rfl (by refine blk_put (cs := #[.slice none 0 0, .int .i64 0]) ?_ 1 _ rfl; refine blk_put (cs := #[.slice none 0 0, .int .i64 0]) ?_ 0 _ rfl; exact BK4.1) Try.underlying27 rfl (by kernel_rfl)) rfl ?_; exact ⟨_, rfl, Kd.R_nil _ _ _ _ _, below_set (below_set HB.1 GE4.1) GE4.1⟩
 have x2 : decide (p ≥ (l.length : Int)) = false := decide_eq_false h2
 by_cases h3 : q < 0
 ·have x3 : decide (q < 0) = true := decide_eq_true h3; clear h1 h2 h3
  go_wp2
  refine bodyPost_ret (results_ct rfl _ _ g4 27 #[.slice none 0 0, .int .i64 0] (0, 0) _ rfl (by refine blk_put (cs := #[.slice none 0 0, .int .i64 0]) ?_ 1 _ rfl; refine blk_put (cs := #[.slice none 0 0, .int .i64 0]) ?_ 0 _ rfl; exact BK4.1) Try.underlying27 rfl (by kernel_rfl)) rfl ?_; exact ⟨_, rfl, Kd.R_nil _ _ _ _ _, below_set (below_set HB.1 GE4.1) GE4.1⟩
 have x3 : decide (q < 0) = false := decide_eq_false h3; have x4 : decide (q ≥ (l.length : Int)) = true := decide_eq_true (by have := HH.1; omega); clear h1 h2 h3
 go_wp2
 refine bodyPost_ret (results_ct rfl _ _ g4 27 #[.slice none 0 0, .int .i64 0] (0, 0) _ rfl (by refine blk_put (cs := #[.slice none 0 0, .int .i64 0]) ?_ 1 _ rfl; refine blk_put (cs := #[.slice none 0 0, .int .i64 0]) ?_ 0 _ rfl; exact BK4.1) Try.underlying27 rfl (by kernel_rfl)) rfl ?_; exact ⟨_, rfl, Kd.R_nil _ _ _ _ _, below_set (below_set HB.1 GE4.1) GE4.1⟩
set_option maxHeartbeats 2000000 in
set_option maxRecDepth 100000 in
theorem do_place (A : Option Addr) (c : Nat) (l : List Bool) (t : Int) (p q : Nat) (w : World) (hl : l.length ≤ 1000000) (hp : p < l.length) (hq : q < l.length) (hc : l.length ≤ c) (hr : Kd.C Kd.bool w A l.length l) (h : l.getD p false = false ∨ l.getD q false = true) :
  Calls Try.prog 30 #[.agg #[.slice A l.length c, .int .i64 t], .agg #[.int .i64 (p : Int), .int .i64 (q : Int)]] w fun e w' => ∃ v0_ : Value, e = .returned (.tuple #[.agg #[v0_, .int .i64 0], .int .i64 13]) ∧ Kd.R Kd.bool 4 w' w.heap.size (fun _ => True) v0_ [] ∧ Below w.heap.size w w' := by
 have hu27 := Try.underlying27; have hu51 := Try.underlying51; have HB := ak (Below.refl w.heap.size w); have HLL := ak hl; have HP := ak hp; have HQ := ak hq; have HC := ak hc; have HR := ak hr; obtain ⟨ad, rfl, hcell⟩ := bool_cells HR.1 (by omega); have HCELL := ak hcell
 have y1 : (p : Int) < (l.length : Int) := by omega
 have y2 : (q : Int) < (l.length : Int) := by omega
 have x1 : decide ((p : Int) < 0) = false := decide_eq_false (by omega); have x2 : decide ((p : Int) ≥ (l.length : Int)) = false := decide_eq_false (by omega); have x2n : decide (l.length ≤ p) = false := decide_eq_false (by omega); have x3 : decide ((q : Int) < 0) = false := decide_eq_false (by omega); have x4 : decide ((q : Int) ≥ (l.length : Int)) = false := decide_eq_false (by omega); have x4n : decide (l.length ≤ q) = false := decide_eq_false (by omega); clear hl hp hq hc hr hcell; have HH := ak h; clear h
 go_enter Try.func30, Try.ntmps30
 go_upto_region 1 with (first | ((with_reducible refine gate_dst (N := 2) rfl ?_); refine box_event ?hg (N := 2) ?hd (cs := #[.slice (some ad) l.length c, .int .i64 t]) (t := 27) ?hr ?_; (case hd => rfl); (case hg => rfl); (case hr => first | (go_simp; done) | (go_simp; rfl)); intro g2 hg w2 hbox hb; have GE2 := ak (show w.heap.size ≤ g2 by have := HB.1.size; omega); have n_HB := ak (below_step HB.1 hb); clear HB; have HB := n_HB; clear n_HB; have BK2 := ak hbox; clear hbox hb hg) | ((with_reducible refine gate_dst (N := 3) rfl ?_); refine box_event ?hg (N := 3) ?hd (cs := #[.int .i64 (p : Int), .int .i64 (q : Int)]) (t := 51) ?hr ?_; (case hd => rfl); (case hg => rfl); (case hr => first | (go_simp; done) | (go_simp; rfl)); intro g3 hg w3 hbox hb; have GE3 := ak (show w.heap.size ≤ g3 by have := HB.1.size; omega); have NE3_2 := ak (show g3 ≠ g2 by have := blk_lt BK2.1; omega); have n_BK2 := ak (blk_below BK2.1 hb); have n_HB := ak (below_step HB.1 hb); clear BK2; clear HB; have BK2 := n_BK2; have HB := n_HB; clear n_BK2 n_HB; have BK3 := ak hbox; clear hbox hb hg) | ((with_reducible refine gate_dst (N := 4) rfl ?_); refine box_event ?hg (N := 4) ?hd (cs := #[.slice none 0 0, .int .i64 0]) (t := 27) ?hr ?_; (case hd => rfl); (case hg => rfl); (case hr => first | (go_simp; done) | (go_simp; rfl)); intro g4 hg w4 hbox hb; have GE4 := ak (show w.heap.size ≤ g4 by have := HB.1.size; omega); have NE4_2 := ak (show g4 ≠ g2 by have := blk_lt BK2.1; omega); have NE4_3 := ak (show g4 ≠ g3 by have := blk_lt BK3.1; omega); have n_BK2 := ak (blk_below BK2.1 hb); have n_BK3 := ak (blk_below BK3.1 hb); have n_HB := ak (below_step HB.1 hb); clear BK2; clear BK3; clear HB; have BK2 := n_BK2; have BK3 := n_BK3; have HB := n_HB; clear n_BK2 n_BK3 n_HB; have BK4 := ak hbox; clear hbox hb hg))
 have e20 := blk_cell BK2.1 0; have e21 := blk_cell BK2.1 1; have f20 := blk_frozen BK2.1 0; have f21 := blk_frozen BK2.1 1; have e30 := blk_cell BK3.1 0; have e31 := blk_cell BK3.1 1; have e40 := blk_cell BK4.1 0; have e41 := blk_cell BK4.1 1; have f40 := blk_frozen BK4.1 0; have f41 := blk_frozen BK4.1 1
 try simp at e20 e21 e30 e31 e40 e41
 have cp := (HB.1.cell (World.block_lt_of_cell? w _ (HCELL.1 p HP.1))).trans (HCELL.1 p HP.1); have cq := (HB.1.cell (World.block_lt_of_cell? w _ (HCELL.1 q HQ.1))).trans (HCELL.1 q HQ.1)
 cases hpv : l.getD p false with
 | false =>
  rw [hpv] at cp; clear hpv
  go_wp2
  refine bodyPost_ret (results_ct rfl _ _ g4 27 #[.slice none 0 0, .int .i64 0] (0, 0) _ rfl (by refine blk_put (cs := #[.slice none 0 0, .int .i64 0]) ?_ 1 _ rfl; refine blk_put (cs := #[.slice none 0 0, .int .i64 0]) ?_ 0 _ rfl; exact BK4.1) Try.underlying27 rfl (by kernel_rfl)) rfl ?_; exact ⟨_, rfl, Kd.R_nil _ _ _ _ _, below_set (below_set HB.1 GE4.1) GE4.1⟩
 | true =>
  rw [hpv] at cp
  have hqv : l.getD q false = true := by
   rcases HH.1 with e | e
   ·rw [hpv] at e; cases e
   ·exact e
  rw [hqv] at cq; clear hpv hqv
  go_wp2
  refine bodyPost_ret (results_ct rfl _ _ g4 27 #[.slice none 0 0, .int .i64 0] (0, 0) _ rfl (by refine blk_put (cs := #[.slice none 0 0, .int .i64 0]) ?_ 1 _ rfl; refine blk_put (cs := #[.slice none 0 0, .int .i64 0]) ?_ 0 _ rfl; exact BK4.1) Try.underlying27 rfl (by kernel_rfl)) rfl ?_; exact ⟨_, rfl, Kd.R_nil _ _ _ _ _, below_set (below_set HB.1 GE4.1) GE4.1⟩
set_option maxHeartbeats 4000000 in
set_option maxRecDepth 100000 in
theorem do_ok (A : Option Addr) (c : Nat) (l : List Bool) (t : Int) (p q : Nat) (w : World) (hl : l.length ≤ 1000000) (hp : p < l.length) (hq : q < l.length) (hc : l.length ≤ c) (hr : Kd.C Kd.bool w A l.length l) (t2 : Int) (h3 : t2 = if t = (p : Int) then (q : Int) else t) (h1 : l.getD p false = true) (h2 : l.getD q false = false) :
  Calls Try.prog 30 #[.agg #[.slice A l.length c, .int .i64 t], .agg #[.int .i64 (p : Int), .int .i64 (q : Int)]] w fun e w' => ∃ v0_ : Value, e = .returned (.tuple #[.agg #[v0_, .int .i64 t2], .int .i64 0]) ∧ Kd.R Kd.bool 4 w' w.heap.size (fun _ => True) v0_ ((l.set p false).set q true) ∧ Below w.heap.size w w' := by
 have hu27 := Try.underlying27; have hu51 := Try.underlying51; have HB := ak (Below.refl w.heap.size w); have HLL := ak hl; have HP := ak hp; have HQ := ak hq; have HC := ak hc; have HR := ak hr; obtain ⟨ad, rfl, hcell⟩ := bool_cells HR.1 (by omega); have HCELL := ak hcell
 have y1 : (p : Int) < (l.length : Int) := by omega
 have y2 : (q : Int) < (l.length : Int) := by omega
 have x1 : decide ((p : Int) < 0) = false := decide_eq_false (by omega); have x2 : decide ((p : Int) ≥ (l.length : Int)) = false := decide_eq_false (by omega); have x2n : decide (l.length ≤ p) = false := decide_eq_false (by omega); have x3 : decide ((q : Int) < 0) = false := decide_eq_false (by omega); have x4 : decide ((q : Int) ≥ (l.length : Int)) = false := decide_eq_false (by omega); have x4n : decide (l.length ≤ q) = false := decide_eq_false (by omega); clear hl hp hq hc hr hcell; have H3 := ak h3; clear h3
 have hne : p ≠ q := fun e => by rw [e, h2] at h1; cases h1
 have HNE := ak hne; have HF := ak (show slices_Clone_bool_bool.f l = some l by unfold slices_Clone_bool_bool.f; rw [if_pos HLL.1]); clear hne
 go_enter Try.func30, Try.ntmps30
 go_upto_region 1 with (first | ((with_reducible refine gate_dst (N := 2) rfl ?_); refine box_event ?hg (N := 2) ?hd (cs := #[.slice (some ad) l.length c, .int .i64 t]) (t := 27) ?hr ?_; (case hd => rfl); (case hg => rfl); (case hr => first | (go_simp; done) | (go_simp; rfl)); intro g2 hg w2 hbox hb; have GE2 := ak (show w.heap.size ≤ g2 by have := HB.1.size; omega); have n_HB := ak (below_step HB.1 hb); clear HB; have HB := n_HB; clear n_HB; have BK2 := ak hbox; clear hbox hb hg) | ((with_reducible refine gate_dst (N := 3) rfl ?_); refine box_event ?hg (N := 3) ?hd (cs := #[.int .i64 (p : Int), .int .i64 (q : Int)]) (t := 51) ?hr ?_; (case hd => rfl); (case hg => rfl); (case hr => first | (go_simp; done) | (go_simp; rfl)); intro g3 hg w3 hbox hb; have GE3 := ak (show w.heap.size ≤ g3 by have := HB.1.size; omega); have NE3_2 := ak (show g3 ≠ g2 by have := blk_lt BK2.1; omega); have n_BK2 := ak (blk_below BK2.1 hb); have n_HB := ak (below_step HB.1 hb); clear BK2; clear HB; have BK2 := n_BK2; have HB := n_HB; clear n_BK2 n_HB; have BK3 := ak hbox; clear hbox hb hg) | ((with_reducible refine gate_dst (N := 4) rfl ?_); refine box_event ?hg (N := 4) ?hd (cs := #[.slice none 0 0, .int .i64 0]) (t := 27) ?hr ?_; (case hd => rfl); (case hg => rfl); (case hr => first | (go_simp; done) | (go_simp; rfl)); intro g4 hg w4 hbox hb; have GE4 := ak (show w.heap.size ≤ g4 by have := HB.1.size; omega); have NE4_2 := ak (show g4 ≠ g2 by have := blk_lt BK2.1; omega); have NE4_3 := ak (show g4 ≠ g3 by have := blk_lt BK3.1; omega); have n_BK2 := ak (blk_below BK2.1 hb); have n_BK3 := ak (blk_below BK3.1 hb); have n_HB := ak (below_step HB.1 hb); clear BK2; clear BK3; clear HB; have BK2 := n_BK2; have BK3 := n_BK3; have HB := n_HB; clear n_BK2 n_BK3 n_HB; have BK4 := ak hbox; clear hbox hb hg))
 have e20 := blk_cell BK2.1 0; have e21 := blk_cell BK2.1 1; have f20 := blk_frozen BK2.1 0; have f21 := blk_frozen BK2.1 1; have e30 := blk_cell BK3.1 0; have e31 := blk_cell BK3.1 1; have e40 := blk_cell BK4.1 0; have e41 := blk_cell BK4.1 1; have f40 := blk_frozen BK4.1 0; have f41 := blk_frozen BK4.1 1
 try simp at e20 e21 e30 e31 e40 e41
 have cp := (HB.1.cell (World.block_lt_of_cell? w _ (HCELL.1 p HP.1))).trans (HCELL.1 p HP.1); have cq := (HB.1.cell (World.block_lt_of_cell? w _ (HCELL.1 q HQ.1))).trans (HCELL.1 q HQ.1); rw [h1] at cp; rw [h2] at cq
 go_upto_region 7 with ((go_at_call 66; refine (slices_Clone_bool_bool.calls _ _ l _ _ (Kd.C_below HR.1 HB.1) HC.1 HF.1).mono ?_; rintro e w66_ ⟨v5, rfl, ho, hb⟩; have HB0 := ak (below_size HB.1); have n_BK2 := ak (blk_below BK2.1 hb); have n_BK3 := ak (blk_below BK3.1 hb); have n_BK4 := ak (blk_below BK4.1 hb); have n_HB := ak (below_step HB.1 hb); clear BK2; clear BK3; clear BK4; clear HB; have BK2 := n_BK2; have BK3 := n_BK3; have BK4 := n_BK4; have HB := n_HB; clear n_BK2 n_BK3 n_BK4 n_HB; obtain ⟨g5, cap5, rfl, hg5⟩ := R_form ho (by have := HP.1; omega); have HO := ak ho; have HG5 := ak hg5; clear ho hg5; clear e20 e21 f20 f21 e30 e31 e40 e41 f40 f41 cp cq; have f20 := blk_frozen BK2.1 0; have e20 := blk_cell BK2.1 0; clear hb))
 have HO1 := ak (Kd.R_set (Kd.R_lower HO.1 HB0.1) BK2.1 (by decide) 0 (.slice (some ⟨g5, 0, none⟩) l.length cap5)); have N52 := ak (show g5 ≠ g2 from fun e => Kd.R_ne HO.1 BK2.1 (by decide) (by simp [Value.ownBlock, e])); have N53 := ak (show g5 ≠ g3 from fun e => Kd.R_ne HO.1 BK3.1 (by decide) (by simp [Value.ownBlock, e])); have N54 := ak (show g5 ≠ g4 from fun e => Kd.R_ne HO.1 BK4.1 (by decide) (by simp [Value.ownBlock, e])); have n_BK3 := ak (blk_far (p := ⟨g2, 0, none⟩) BK3.1 NE3_2.1 (.slice (some ⟨g5, 0, none⟩) l.length cap5)); have n_BK4 := ak (blk_far (p := ⟨g2, 0, none⟩) BK4.1 NE4_2.1 (.slice (some ⟨g5, 0, none⟩) l.length cap5)); have n_BK2 := ak (blk_put (cs := #[.slice (some ad) l.length c, .int .i64 t]) BK2.1 0 (.slice (some ⟨g5, 0, none⟩) l.length cap5) rfl); have n_HB := ak (below_set (j := 0) (v := .slice (some ⟨g5, 0, none⟩) l.length cap5) HB.1 GE2.1); have HBX := HB0; clear e20 f20 HO BK2 BK3 BK4 HB HB0; have BK2 := n_BK2; have BK3 := n_BK3; have BK4 := n_BK4; have HB := n_HB; clear n_BK2 n_BK3 n_BK4 n_HB; generalize w66_.setCell ⟨g2, 0, none⟩ (.slice (some ⟨g5, 0, none⟩) l.length cap5) = W at HO1 BK2 BK3 BK4 HB ⊢; have e20 := blk_cell BK2.1 0; have e30 := blk_cell BK3.1 0; have e31 := blk_cell BK3.1 1
 try simp at e20 e30 e31
 obtain ⟨cp, fp⟩ := Kd.R_cell false HO1.1 (p : Int) (by omega) (by omega); obtain ⟨cq, fq⟩ := Kd.R_cell false HO1.1 (q : Int) (by omega) (by omega); rw [Int.toNat_natCast] at cp fp cq fq; have kpq := fun (v : Value) => (cell_off_ne W g5 p q v (Ne.symm HNE.1)).trans cq; have kqp := fun (v : Value) => (cell_off_ne W g5 q p v HNE.1).trans cp; have HG6 := ak (show w.heap.size ≤ g5 from Nat.le_trans HBX.1 HG5.1); have n52 := N52.1; have n53 := N53.1
 go_cut [] (fun wc => Aside0 (Kd.R Kd.bool 4 wc w.heap.size (fun _ => True) (.slice (some ⟨g5, 0, none⟩) l.length cap5) ((l.set p false).set q true)) ∧ Aside0 (wc.heap[g2]? = some (.cells #[.slice (some ⟨g5, 0, none⟩) l.length cap5, .int .i64 t] 27 (0, 0))) ∧ Aside0 (wc.heap[g3]? = some (.cells #[.int .i64 (p : Int), .int .i64 (q : Int)] 51 (0, 0))) ∧ Aside0 (wc.heap[g4]? = some (.cells #[.slice none 0 0, .int .i64 0] 27 (0, 0))) ∧ Aside0 (Below w.heap.size w wc))
 case first =>
  go_region_held3 (fun w' => w'.cell? ⟨g2, 0, none⟩ = some (.slice (some ⟨g5, 0, none⟩) l.length cap5) ∧ w'.cell? ⟨g3, 0, none⟩ = some (.int .i64 (p : Int)) ∧ w'.cell? ⟨g3, 1, none⟩ = some (.int .i64 (q : Int))) (go_keep) (fail)
  all_goals go_wp2
  go_meet
  case rel =>
   have h1 := Kd.R_putn HO1.1 (p : Int) false; have h2 := Kd.R_putn h1 (q : Int) true; rw [Int.toNat_natCast, Int.toNat_natCast] at h2; exact ⟨⟨h2⟩, ⟨blk_far (p := ⟨g5, q, none⟩) (blk_far (p := ⟨g5, p, none⟩) BK2.1 (Ne.symm n52) _) (Ne.symm n52) _⟩, ⟨blk_far (p := ⟨g5, q, none⟩) (blk_far (p := ⟨g5, p, none⟩) BK3.1 (Ne.symm n53) _) (Ne.symm n53) _⟩, ⟨blk_far (p := ⟨g5, q, none⟩) (blk_far (p := ⟨g5, p, none⟩) BK4.1 (Ne.symm N54.1) _) (Ne.symm N54.1) _⟩, ⟨below_drew1 (below_set (below_set HB.1 HG6.1) HG6.1)⟩⟩
 case rest =>
  clear e20 e30 e31 cp fp cq fq kpq kqp n52 n53 HO1 BK2 BK3 BK4 HB; obtain ⟨HO1, BK2, BK3, BK4, HB⟩ := hcut; have e20 := blk_cell BK2.1 0; have e21 := blk_cell BK2.1 1; have f21 := blk_frozen BK2.1 1; have e30 := blk_cell BK3.1 0; have e31 := blk_cell BK3.1 1; have e40 := blk_cell BK4.1 0; have e41 := blk_cell BK4.1 1; have f40 := blk_frozen BK4.1 0; have f41 := blk_frozen BK4.1 1
  try simp at e20 e21 e30 e31 e40 e41
  have NE42 := NE4_2.1; have hg42 := ak (show g5 ≠ g4 from N54.1)
  by_cases ht : t = (p : Int)
  ·have z1 : (t == (p : Int)) = true := beq_iff_eq.2 ht; have HT := ak (show t2 = (q : Int) by rw [H3.1, if_pos ht]); clear ht
   go_wp2
   refine bodyPost_ret (results_ct rfl _ _ g4 27 #[.slice (some ⟨g5, 0, none⟩) l.length cap5, .int .i64 (q : Int)] (0, 0) _ rfl (by refine blk_put (cs := #[.slice (some ⟨g5, 0, none⟩) l.length cap5, .int .i64 0]) ?_ 1 _ rfl; refine blk_put (cs := #[.slice none 0 0, .int .i64 0]) ?_ 0 _ rfl; exact blk_far (p := ⟨g2, 1, none⟩) BK4.1 NE42 _) Try.underlying27 rfl (by kernel_rfl)) rfl ?_; exact ⟨.slice (some ⟨g5, 0, none⟩) l.length cap5, by rw [HT.1]; rfl, Kd.R_set (Kd.R_set (Kd.R_set HO1.1 BK2.1 (by decide) 1 _) (blk_far (p := ⟨g2, 1, none⟩) BK4.1 NE42 _) (by decide) 0 _) (blk_set (blk_far (p := ⟨g2, 1, none⟩) BK4.1 NE42 _) 0 _) (by decide) 1 _, below_set (below_set (below_set HB.1 GE2.1) GE4.1) GE4.1⟩
  ·have z1 : (t == (p : Int)) = false := beq_eq_false_iff_ne.2 ht; have HT := ak (show t2 = t by rw [H3.1, if_neg ht]); clear ht
   go_wp2
   refine bodyPost_ret (results_ct rfl _ _ g4 27 #[.slice (some ⟨g5, 0, none⟩) l.length cap5, .int .i64 t] (0, 0) _ rfl (by refine blk_put (cs := #[.slice (some ⟨g5, 0, none⟩) l.length cap5, .int .i64 0]) ?_ 1 _ rfl; refine blk_put (cs := #[.slice none 0 0, .int .i64 0]) ?_ 0 _ rfl; exact BK4.1) Try.underlying27 rfl (by kernel_rfl)) rfl ?_; exact ⟨.slice (some ⟨g5, 0, none⟩) l.length cap5, by rw [HT.1]; rfl, Kd.R_set (Kd.R_set HO1.1 BK4.1 (by decide) 0 _) (blk_set BK4.1 0 _) (by decide) 1 _, below_set (below_set HB.1 GE4.1) GE4.1⟩
def layout_Do.f (l : List Bool) (t p q : Int) : Option (List Bool × Int × Int) :=
 if ¬ l.length ≤ 1000000 then none else if p < 0 ∨ (l.length : Int) ≤ p ∨ q < 0 ∨ (l.length : Int) ≤ q then some ([], 0, 3) else if l.getD p.toNat false = false ∨ l.getD q.toNat false = true then some ([], 0, 13) else some ((l.set p.toNat false).set q.toNat true, if t = p then q else t, 0)
theorem layout_Do.calls (A0_0 : Option Addr) (c0_0 : Nat) (l0_0 : List Bool) (a0_1 : Int) (a1_0 : Int) (a1_1 : Int) (r1 : List Bool) (r2 : Int) (r3 : Int) (w : World) (hr0_0 : Kd.C Kd.bool w A0_0 l0_0.length l0_0) (hc0_0 : l0_0.length ≤ c0_0) (h : layout_Do.f l0_0 a0_1 a1_0 a1_1 = some (r1, r2, r3)) :
  Calls Try.prog 30 #[.agg #[.slice A0_0 l0_0.length c0_0, .int .i64 a0_1], .agg #[.int .i64 a1_0, .int .i64 a1_1]] w fun e w' => ∃ v0_ : Value, e = .returned (.tuple #[.agg #[v0_, .int .i64 r2], .int .i64 r3]) ∧ Kd.R Kd.bool 4 w' w.heap.size (fun _ => True) v0_ r1 ∧ Below w.heap.size w w' := by
 unfold layout_Do.f at h
 by_cases hl : l0_0.length ≤ 1000000
 ·rw [if_neg (not_not_intro hl)] at h
  by_cases h1 : a1_0 < 0 ∨ (l0_0.length : Int) ≤ a1_0 ∨ a1_1 < 0 ∨ (l0_0.length : Int) ≤ a1_1
  ·rw [if_pos h1] at h
   injection h with h
   injection h with e1 h
   injection h with e2 e3
   subst e1 e2 e3; exact do_range A0_0 c0_0 l0_0 a0_1 a1_0 a1_1 w hl h1
  ·rw [if_neg h1] at h; obtain ⟨p, rfl⟩ : ∃ p : Nat, a1_0 = p := ⟨a1_0.toNat, by omega⟩; obtain ⟨q, rfl⟩ : ∃ q : Nat, a1_1 = q := ⟨a1_1.toNat, by omega⟩; rw [Int.toNat_natCast, Int.toNat_natCast] at h
   by_cases h2 : l0_0.getD p false = false ∨ l0_0.getD q false = true
   ·rw [if_pos h2] at h
    injection h with h
    injection h with e1 h
    injection h with e2 e3
    subst e1 e2 e3; exact do_place A0_0 c0_0 l0_0 a0_1 p q w hl (by omega) (by omega) hc0_0 hr0_0 h2
   ·rw [if_neg h2] at h
    injection h with h
    injection h with e1 h
    injection h with e2 e3
    subst e1 e3; exact do_ok A0_0 c0_0 l0_0 a0_1 p q w hl (by omega) (by omega) hc0_0 hr0_0 r2 e2.symm (by cases e : l0_0.getD p false <;> simp_all) (by cases e : l0_0.getD q false <;> simp_all)
 ·rw [if_pos hl] at h
  cases h
end Go.Proofs.Ytogmjilaiopjmaa.P
end
section
namespace Go.Proofs.Ytogmjilaiopjmaa.P
theorem rk_lt_bin : ∀ l : List Bool, rk l < bin l.length (shel l)
 | [] => by simp [rk, shel, bin]
 | true :: bs => by
  have h := rk_lt_bin bs; rw [shel_cons, if_pos rfl, Nat.add_comm, List.length_cons, bin_succ, rk]
  omega
 | false :: bs => by
  have h := rk_lt_bin bs; rw [shel_cons, if_neg (by simp), Nat.zero_add, List.length_cons, rk]
  by_cases h0 : 0 < shel bs
  ·rw [if_pos h0]; obtain ⟨k, hk⟩ : ∃ k, shel bs = k + 1 := ⟨shel bs - 1, by omega⟩; rw [hk] at h ⊢; rw [bin_succ, Nat.add_sub_cancel]
   omega
  ·rw [if_neg h0]
   have e : shel bs = 0 := by omega
   rw [e, bin_zero] at h ⊢
   omega
theorem unr_rk : ∀ l : List Bool, unr l.length (shel l) (rk l) = l
 | [] => rfl
 | true :: bs => by
  have h := unr_rk bs; have hl := rk_lt_bin bs; rw [List.length_cons, shel_cons, if_pos rfl, Nat.add_comm 1, rk, unr_yes (by omega) (by simpa using hl), Nat.add_sub_cancel, h]
 | false :: bs => by
  have h := unr_rk bs; rw [List.length_cons, shel_cons, if_neg (by simp), Nat.zero_add, rk]
  by_cases h0 : 0 < shel bs
  ·rw [if_pos h0, unr_no h0 (by omega), Nat.add_sub_cancel_left, h]
  ·rw [if_neg h0, Nat.zero_add]
   have e : shel bs = 0 := by omega
   rw [e] at h ⊢; rw [unr_none, h]
theorem shel_unr : ∀ m need r, need ≤ m → r < bin m need → shel (unr m need r) = need ∧ rk (unr m need r) = r
 | 0, need, r, h, hr => by
  obtain rfl : need = 0 := by omega
  rw [bin_zero] at hr
  obtain rfl : r = 0 := by omega
  exact ⟨rfl, rfl⟩
 | m + 1, 0, r, _, hr => by
  rw [bin_zero] at hr
  obtain rfl : r = 0 := by omega
  obtain ⟨h1, h2⟩ := shel_unr m 0 0 (by omega) (by rw [bin_zero]; omega); rw [unr_none, shel_cons, rk, h1, h2]
  simp
 | m + 1, need + 1, r, h, hr => by
  rw [bin_succ] at hr
  by_cases hb : r < bin m need
  ·obtain ⟨h1, h2⟩ := shel_unr m need r (by omega) hb; rw [unr_yes (by omega) (by simpa using hb), Nat.add_sub_cancel, shel_cons, rk, h1, h2]
   simp; omega
  ·have hn : need + 1 ≤ m := by
    rcases Nat.lt_or_ge m (need + 1) with hlt | hge
    ·rw [bin_big m (need + 1) hlt] at hr; omega
    ·exact hge
   obtain ⟨h1, h2⟩ := shel_unr m (need + 1) (r - bin m need) hn (by omega); rw [unr_no (by omega) (by simpa using hb), Nat.add_sub_cancel, shel_cons, rk, h1, h2, unr_len]
   simp
   omega
theorem shel_insT : ∀ (t : Nat) (l : List Bool), t ≤ l.length → shel (insT t l) = shel l + 1
 | 0, l, _ => by rw [insT, shel_cons]; simp; omega
 | t + 1, [], h => by simp at h
 | t + 1, b :: l, h => by rw [insT, shel_cons, shel_cons, shel_insT t l (by simpa using h)]; omega
theorem get_insT : ∀ (t : Nat) (l : List Bool), t ≤ l.length → (insT t l).getD t false = true
 | 0, l, _ => rfl
 | t + 1, [], h => by simp at h
 | t + 1, b :: l, h => by rw [insT, List.getD_cons_succ, get_insT t l (by simpa using h)]
theorem oth_insT (t : Nat) : ∀ (i : Nat) (l : List Bool), i ≤ t → t - i ≤ l.length → oth t i (insT (t - i) l) = l
 | i, [], h, h' => by
  obtain rfl : t = i := by simp at h'; omega
  rw [Nat.sub_self, insT, oth, if_pos rfl, oth]
 | i, b :: l, h, h' => by
  by_cases e : i = t
  ·subst e; rw [Nat.sub_self, insT, oth, if_pos rfl, oth_past i (i + 1) _ (by omega)]
  ·rw [show t - i = (t - (i + 1)) + 1 by omega, insT, oth, if_neg e, oth_insT t (i + 1) l (by omega) (by simp at h'; omega)]
theorem insT_oth (t : Nat) : ∀ (i : Nat) (l : List Bool), i ≤ t → l.getD (t - i) false = true → insT (t - i) (oth t i l) = l
 | i, [], h, h' => by simp at h'
 | i, b :: l, h, h' => by
  by_cases e : i = t
  ·subst e
   simp at h'
   rw [Nat.sub_self, oth, if_pos rfl, oth_past i (i + 1) _ (by omega), insT, h']
  ·rw [show t - i = (t - (i + 1)) + 1 by omega, List.getD_cons_succ] at h'; rw [oth, if_neg e, show t - i = (t - (i + 1)) + 1 by omega, insT, insT_oth t (i + 1) l (by omega) h']
theorem bin_rest {n k r : Nat} (hk : 1 ≤ k) (hk2 : k ≤ n) : r % bin (n - 1) (k - 1) < bin (n - 1) (k - 1) := Nat.mod_lt _ (bin_pos _ _ (by omega))
theorem unrL_right {n k r : Nat} (hk : 1 ≤ k) (hk2 : k ≤ n) (hr : r < cntN n k) : shel (unrL n k r) = k ∧ (unrL n k r).getD (unrT n k r) false = true := by
 have ht := unrT_lt hr; obtain ⟨h1, _⟩ := shel_unr (n - 1) (k - 1) _ (by omega) (bin_rest (r := r) hk hk2)
 unfold unrL
 rw [shel_insT _ _ (by rw [unr_len]; omega), h1]; exact ⟨by omega, get_insT _ _ (by rw [unr_len]; omega)⟩
theorem rank_unr {n k r : Nat} (hk : 1 ≤ k) (hk2 : k ≤ n) (hr : r < cntN n k) : rankN (unrL n k r) (unrT n k r) = r := by
 have ht := unrT_lt hr; obtain ⟨_, h2⟩ := shel_unr (n - 1) (k - 1) _ (by omega) (bin_rest (r := r) hk hk2)
 unfold rankN
 rw [(unrL_right hk hk2 hr).1, unrL_len hr]
 have e : oth (unrT n k r) 0 (unrL n k r) = unr (n - 1) (k - 1) (r % bin (n - 1) (k - 1)) := by
  unfold unrL
  exact oth_insT _ 0 _ (by omega) (by rw [unr_len]; omega)
 rw [e, h2]
 unfold unrT
 rw [Nat.mul_comm]; exact Nat.div_add_mod r _
theorem rank_parts {l : List Bool} {t : Nat} (ht : t < l.length) (h : l.getD t false = true) : rk (oth t 0 l) < bin (l.length - 1) (shel l - 1) := by
 have h1 := rk_lt_bin (oth t 0 l); have h2 := oth_len t 0 l (by omega) (by omega); have h3 := oth_shel t 0 l (by omega) (by rwa [Nat.sub_zero]); rw [show (oth t 0 l).length = l.length - 1 by omega, show shel (oth t 0 l) = shel l - 1 by omega] at h1; exact h1
theorem rank_lt {l : List Bool} {t : Nat} (ht : t < l.length) (h : l.getD t false = true) : rankN l t < cntN l.length (shel l) := by
 have h1 := rank_parts ht h
 unfold rankN cntN
 have h2 : (t + 1) * bin (l.length - 1) (shel l - 1) ≤ l.length * bin (l.length - 1) (shel l - 1) := Nat.mul_le_mul_right _ ht; rw [Nat.add_mul, Nat.one_mul] at h2
 omega
theorem unr_rank {l : List Bool} {t : Nat} (ht : t < l.length) (h : l.getD t false = true) : unrT l.length (shel l) (rankN l t) = t ∧ unrL l.length (shel l) (rankN l t) = l := by
 have h1 := rank_parts ht h
 have e1 : unrT l.length (shel l) (rankN l t) = t := by
  unfold unrT rankN
  rw [Nat.mul_comm, Nat.mul_add_div (by omega), Nat.div_eq_of_lt h1, Nat.add_zero]
 refine ⟨e1, ?_⟩
 unfold unrL
 rw [e1]
 have e2 : rankN l t % bin (l.length - 1) (shel l - 1) = rk (oth t 0 l) := by
  unfold rankN
  rw [Nat.mul_comm, Nat.mul_add_mod, Nat.mod_eq_of_lt h1]
 have h2 := oth_len t 0 l (by omega) (by omega); have h3 := oth_shel t 0 l (by omega) (by rwa [Nat.sub_zero]); rw [e2, show l.length - 1 = (oth t 0 l).length by omega, show shel l - 1 = shel (oth t 0 l) by omega, unr_rk]; have := insT_oth t 0 l (by omega) (by rwa [Nat.sub_zero])
 rwa [Nat.sub_zero] at this
theorem shel_pos {l : List Bool} {t : Nat} (h : l.getD t false = true) : 1 ≤ shel l := by
 rw [List.getD_eq_getElem?_getD] at h
 cases hl : l[t]? with
 | none => rw [hl] at h; simp at h
 | some b =>
  rw [hl] at h
  simp at h
  subst h
  unfold shel
  exact List.count_pos_iff.2 (List.mem_of_getElem? hl)
end Go.Proofs.Ytogmjilaiopjmaa.P
end
section
namespace Go.Proofs.Ytogmjilaiopjmaa.P
open Go.RowKit Go.Proofs.YtogmjilaiopjmaaW.PrintWords Go.Proofs.YtogmjilaiopjmaaW.PrintLast Go.Proofs.YtogmjilaiopjmaaW.PrintMore
def bl (n m : Nat) : Array Bool := ((List.range n).map fun i => m.testBit i).toArray
section
variable {P : Program} {ops : Array Oper} {Q : Exit → Act → World → Prop} {md : Region.Mode} {S : World → Prop} {ds : List Nat}
theorem pu_ {T : Bool × List (List Nat × List Nat)} {oi : Oper} {v : Value} {fuel : Nat} {l : Array Bool} {a a' : Act} {w : World} (i : Nat) (N : Option Tmp) (l' : Array Bool) (hT : rtab md ops = T) (h : wpAnyLast P md ops Q S ds fuel l' a' w)
  (hi : ops[i]? = some oi := by rfl) (hN : oi.dst = N := by rfl) (hc : anyT T l.toList l'.toList i = true := by kernel_rfl) (hQ : ∀ c a w, Q (.panic c) (a.put oi.dst v) w → Q (.panic c) a w := by exact fun _ _ _ h => h)
  (hw : Region.wanted oi (yielded ops a.tmps) = true := by rfl) (hrun : ∀ w', (execOp a.eval oi).run P w' = .ok (.value v) w' := by (intro w'; go_simp; with_reducible rfl))
  (ha : a.put N v = a' := by (simp only [Act.put, List.setIfInBounds_toArray, List.set_cons_zero, List.set_cons_succ, i64_w, i32_w]; rfl)) : wpAnyLast P md ops Q S ds (fuel + 1) l a w :=
 pure_ l' hi hN (any_of hT hc) hQ (Or.inl ⟨hw, hrun⟩) ha h
theorem pn_ {T : Bool × List (List Nat × List Nat)} {oi : Oper} {fuel : Nat} {l : Array Bool} {a a' : Act} {w : World} (i : Nat) (N : Option Tmp) (l' : Array Bool) (hT : rtab md ops = T) (h : wpAnyLast P md ops Q S ds fuel l' a' w)
  (hi : ops[i]? = some oi := by rfl) (hN : oi.dst = N := by rfl) (hc : anyT T l.toList l'.toList i = true := by kernel_rfl) (hQ : ∀ c a w, Q (.panic c) (a.put oi.dst undef) w → Q (.panic c) a w := by exact fun _ _ _ h => h)
  (hw : Region.wanted oi (yielded ops a.tmps) = false := by rfl)
  (ha : a.put N undef = a' := by (simp only [Act.put, List.setIfInBounds_toArray, List.set_cons_zero, List.set_cons_succ, i64_w, i32_w]; rfl)) : wpAnyLast P md ops Q S ds (fuel + 1) l a w :=
 pure_ l' hi hN (any_of hT hc) hQ (Or.inr ⟨hw, rfl⟩) ha h
theorem tk_ {oi : Oper} {v : Value} {fuel : Nat} {l : Array Bool} {a a' : Act} {w : World} (i : Nat) (N : Option Tmp) (l' : Array Bool) (hc : takeB md ops ds l l' i = true) (hS : S w) (h : wpAnyLast P md ops Q S ds fuel l' a' w)
  (hi : ops[i]? = some oi := by rfl) (hN : oi.dst = N := by rfl) (hQ : ∀ c a w, Q (.panic c) (a.put oi.dst v) w → Q (.panic c) a w := by exact fun _ _ _ h => h)
  (hw : Region.wanted oi (yielded ops a.tmps) = true := by rfl) (hrun : ∀ w', S w' → (execOp a.eval oi).run P w' = .ok (.value v) w' := by (intro w' hs_; (repeat (obtain ⟨_, hs_⟩ := hs_)); go_simp; with_reducible rfl))
  (ha : a.put N v = a' := by (simp only [Act.put, List.setIfInBounds_toArray, List.set_cons_zero, List.set_cons_succ, i64_w, i32_w]; rfl)) : wpAnyLast P md ops Q S ds (fuel + 1) l a w :=
 take_ l' hi hN hc hQ (Or.inl ⟨hw, hrun⟩) hS ha h
end
end Go.Proofs.Ytogmjilaiopjmaa.P
end
section
namespace Go.Proofs.Ytogmjilaiopjmaa.P
open Go.RowKit Go.Proofs.YtogmjilaiopjmaaW.PrintWords Go.Proofs.YtogmjilaiopjmaaW.PrintLast Go.Proofs.YtogmjilaiopjmaaW.PrintMore
attribute [local go_sem] max2_int min2_int max_two min_two max_three min_three max_four min_four
def taquinref07_Size.f (a0_0 : Int) (a0_1 : Int) (a0_2 : Int) (l0_3 : List Int) (l0_4 : List Int) : Option (Int) := some (wrap64 ((wrap64 (a0_0 * a0_1)) * a0_2))
set_option maxHeartbeats 8000000 in
set_option maxRecDepth 100000 in
theorem taquinref07_Size.calls (a0_0 : Int) (a0_1 : Int) (a0_2 : Int) (A0_3 : Option Addr) (c0_3 : Nat) (l0_3 : List Int) (A0_4 : Option Addr) (c0_4 : Nat) (l0_4 : List Int) (r : Int) (w : World) (hr0_3 : Kd.C (Kd.int .i64) w A0_3 l0_3.length l0_3) (hc0_3 : l0_3.length ≤ c0_3) (hr0_4 : Kd.C (Kd.int .i64) w A0_4 l0_4.length l0_4) (hc0_4 : l0_4.length ≤ c0_4) (h : taquinref07_Size.f a0_0 a0_1 a0_2 l0_3 l0_4 = some r) :
  Calls Try.prog 134 #[.agg #[.int .i64 a0_0, .int .i64 a0_1, .int .i64 a0_2, .slice A0_3 l0_3.length c0_3, .slice A0_4 l0_4.length c0_4]] w fun e w' => e = .returned (.int .i64 r) ∧ Below w.heap.size w w' := by
 have hu24 := Try.underlying24; have HR0_3 := ak hr0_3; have HC0_3 := ak hc0_3; clear hr0_3 hc0_3; have HR0_4 := ak hr0_4; have HC0_4 := ak hc0_4; clear hr0_4 hc0_4; have HB := ak (Below.refl w.heap.size w); have H : (some (wrap64 ((wrap64 (a0_0 * a0_1)) * a0_2))) = some r := h; clear h; obtain rfl := Option.some.inj H
 go_enter Try.func134, Try.ntmps134
 go_wp2_with (first | ((with_reducible refine gate_dst (N := 1) rfl ?_); refine box_event ?hg (N := 1) ?hd (cs := #[.int .i64 a0_0, .int .i64 a0_1, .int .i64 a0_2, .slice A0_3 l0_3.length c0_3, .slice A0_4 l0_4.length c0_4]) (t := 24) ?hr ?_; (case hd => rfl); (case hg => rfl); (case hr => first | (go_simp; done) | (go_simp; rfl)); intro gb285 hg w2 hbox hb; have BK285 := ak (hbox); have GW285 := gw_ hg HB.1.size; have GE285 := gw_ hg HB.1.size; replace HB := ak (below_step HB.1 hb); clear hb hbox hg; obtain ⟨hcz3_0, hcz3_1, hcz3_2, hcz3_3, hcz3_4, hfz3_0, hfz3_1, hfz3_2, hfz3_3, hfz3_4⟩ := bk5 BK285.1))
 go_ret
 exact ⟨er_, hq1_ HB.1 GE285.1⟩
def taquinref07_Is.f (a0_0 : Int) (a0_1 : Int) (a0_2 : Int) (l0_3 : List Int) (l0_4 : List Int) (a1 : Int) : Option (Bool) := if a1 ≥ 0 then ((taquinref07_Size.f a0_0 a0_1 a0_2 l0_3 l0_4).bind fun t287 => (some (decide (a1 < t287)))) else (some false)
set_option maxHeartbeats 8000000 in
set_option maxRecDepth 100000 in
theorem taquinref07_Is.calls (a0_0 : Int) (a0_1 : Int) (a0_2 : Int) (A0_3 : Option Addr) (c0_3 : Nat) (l0_3 : List Int) (A0_4 : Option Addr) (c0_4 : Nat) (l0_4 : List Int) (a1 : Int) (r : Bool) (w : World) (hr0_3 : Kd.C (Kd.int .i64) w A0_3 l0_3.length l0_3) (hc0_3 : l0_3.length ≤ c0_3) (hr0_4 : Kd.C (Kd.int .i64) w A0_4 l0_4.length l0_4) (hc0_4 : l0_4.length ≤ c0_4) (h : taquinref07_Is.f a0_0 a0_1 a0_2 l0_3 l0_4 a1 = some r) :
  Calls Try.prog 120 #[.agg #[.int .i64 a0_0, .int .i64 a0_1, .int .i64 a0_2, .slice A0_3 l0_3.length c0_3, .slice A0_4 l0_4.length c0_4], .int .i64 a1] w fun e w' => e = .returned (.bool r) ∧ Below w.heap.size w w' := by
 have hu24 := Try.underlying24; have HR0_3 := ak hr0_3; have HC0_3 := ak hc0_3; clear hr0_3 hc0_3; have HR0_4 := ak hr0_4; have HC0_4 := ak hc0_4; clear hr0_4 hc0_4; have HB := ak (Below.refl w.heap.size w); have H : (if a1 ≥ 0 then ((taquinref07_Size.f a0_0 a0_1 a0_2 l0_3 l0_4).bind fun t287 => (some (decide (a1 < t287)))) else (some false)) = some r := h; clear h
 by_cases c3 : a1 ≥ 0
 ·rw [if_pos c3] at H; have c3b0 : decide (0 ≤ a1) = true := decide_eq_true c3; clear c3; replace H := Option.bind_eq_some_iff.mp H; obtain ⟨t287, A40, H⟩ := H
  replace H : (some (decide (a1 < t287))) = some r := H
  have A4 := ak A40; clear A40; obtain rfl := Option.some.inj H
  go_enter Try.func120, Try.ntmps120
  go_wp2_with (first | ((with_reducible refine gate_dst (N := 2) rfl ?_); refine box_event ?hg (N := 2) ?hd (cs := #[.int .i64 a0_0, .int .i64 a0_1, .int .i64 a0_2, .slice A0_3 l0_3.length c0_3, .slice A0_4 l0_4.length c0_4]) (t := 24) ?hr ?_; (case hd => rfl); (case hg => rfl); (case hr => first | (go_simp; done) | (go_simp; rfl)); intro gb286 hg w5 hbox hb; have BK286 := ak (hbox); have GW286 := gw_ hg HB.1.size; have GE286 := gw_ hg HB.1.size; replace HB := ak (below_step HB.1 hb); clear hb hbox hg; obtain ⟨hcz6_0, hcz6_1, hcz6_2, hcz6_3, hcz6_4, hfz6_0, hfz6_1, hfz6_2, hfz6_3, hfz6_4⟩ := bk5 BK286.1) | (go_at_call 134; (with_reducible refine (taquinref07_Size.calls a0_0 a0_1 a0_2 _ _ l0_3 _ _ l0_4 t287 _ ?side1 ?side2 ?side3 ?side4 A4.1).mono ?_); (case side1 => exact (Kd.C_below HR0_3.1 HB.1)); (case side2 => exact HC0_3.1); (case side3 => exact (Kd.C_below HR0_4.1 HB.1)); (case side4 => exact HC0_4.1); rintro e w7 ⟨rfl, hb⟩; replace BK286 := ak (blk_below BK286.1 hb); replace HB := ak (below_step HB.1 hb); (try clear hb)))
  go_ret
  exact ⟨er_, hq1_ HB.1 GE286.1⟩
 ·rw [if_neg c3] at H; have c3b0 : decide (0 ≤ a1) = false := decide_eq_false c3; clear c3; obtain rfl := Option.some.inj H
  go_enter Try.func120, Try.ntmps120
  go_wp2_with (first | ((with_reducible refine gate_dst (N := 2) rfl ?_); refine box_event ?hg (N := 2) ?hd (cs := #[.int .i64 a0_0, .int .i64 a0_1, .int .i64 a0_2, .slice A0_3 l0_3.length c0_3, .slice A0_4 l0_4.length c0_4]) (t := 24) ?hr ?_; (case hd => rfl); (case hg => rfl); (case hr => first | (go_simp; done) | (go_simp; rfl)); intro gb286 hg w8 hbox hb; have BK286 := ak (hbox); have GW286 := gw_ hg HB.1.size; have GE286 := gw_ hg HB.1.size; replace HB := ak (below_step HB.1 hb); clear hb hbox hg))
  go_ret
  exact ⟨er_, hq1_ HB.1 GE286.1⟩
def taquinref07_At.f (a0_0 : Int) (a0_1 : Int) (a0_2 : Int) (l0_3 : List Int) (l0_4 : List Int) (a1 : Int) : Option (Int × Int × Int) := (taquinref07_Is.f a0_0 a0_1 a0_2 l0_3 l0_4 a1).bind fun t289 => (if t289 = true then (if a0_0 = 0 then (none) else (if a0_1 = 0 then (none) else (some (Int.tmod a1 a0_0, Int.tmod (wrap64 (Int.tdiv a1 a0_0)) a0_1, wrap64 (Int.tdiv (wrap64 (Int.tdiv a1 a0_0)) a0_1))))) else (some (0, 0, 0)))
set_option maxHeartbeats 8000000 in
set_option maxRecDepth 100000 in
theorem taquinref07_At.calls (a0_0 : Int) (a0_1 : Int) (a0_2 : Int) (A0_3 : Option Addr) (c0_3 : Nat) (l0_3 : List Int) (A0_4 : Option Addr) (c0_4 : Nat) (l0_4 : List Int) (a1 : Int) (r1 : Int) (r2 : Int) (r3 : Int) (w : World) (hr0_3 : Kd.C (Kd.int .i64) w A0_3 l0_3.length l0_3) (hc0_3 : l0_3.length ≤ c0_3) (hr0_4 : Kd.C (Kd.int .i64) w A0_4 l0_4.length l0_4) (hc0_4 : l0_4.length ≤ c0_4) (h : taquinref07_At.f a0_0 a0_1 a0_2 l0_3 l0_4 a1 = some (r1, r2, r3)) :
  Calls Try.prog 121 #[.agg #[.int .i64 a0_0, .int .i64 a0_1, .int .i64 a0_2, .slice A0_3 l0_3.length c0_3, .slice A0_4 l0_4.length c0_4], .int .i64 a1] w fun e w' => e = .returned (.tuple #[.int .i64 r1, .int .i64 r2, .int .i64 r3]) ∧ Below w.heap.size w w' := by
 have hu24 := Try.underlying24; have HR0_3 := ak hr0_3; have HC0_3 := ak hc0_3; clear hr0_3 hc0_3; have HR0_4 := ak hr0_4; have HC0_4 := ak hc0_4; clear hr0_4 hc0_4; have HB := ak (Below.refl w.heap.size w); have H : ((taquinref07_Is.f a0_0 a0_1 a0_2 l0_3 l0_4 a1).bind fun t289 => (if t289 = true then (if a0_0 = 0 then (none) else (if a0_1 = 0 then (none) else (some (Int.tmod a1 a0_0, Int.tmod (wrap64 (Int.tdiv a1 a0_0)) a0_1, wrap64 (Int.tdiv (wrap64 (Int.tdiv a1 a0_0)) a0_1))))) else (some (0, 0, 0)))) = some (r1, r2, r3) := h; clear h; replace H := Option.bind_eq_some_iff.mp H; obtain ⟨t289, A30, H⟩ := H
 replace H : (if t289 = true then (if a0_0 = 0 then (none) else (if a0_1 = 0 then (none) else (some (Int.tmod a1 a0_0, Int.tmod (wrap64 (Int.tdiv a1 a0_0)) a0_1, wrap64 (Int.tdiv (wrap64 (Int.tdiv a1 a0_0)) a0_1))))) else (some (0, 0, 0))) = some (r1, r2, r3) := H
 have A3 := ak A30; clear A30
 by_cases c4 : t289 = true
 ·subst c4
  have H1 : (if a0_0 = 0 then (none) else (if a0_1 = 0 then (none) else (some (Int.tmod a1 a0_0, Int.tmod (wrap64 (Int.tdiv a1 a0_0)) a0_1, wrap64 (Int.tdiv (wrap64 (Int.tdiv a1 a0_0)) a0_1))))) = some (r1, r2, r3) := by rw [if_pos rfl] at H; exact H
  clear H; have H := H1; clear H1
  by_cases c5 : a0_0 = 0
  ·rw [if_pos c5] at H; exact absurd H (by simp)
  ·rw [if_neg c5] at H; have c5b0 : (a0_0 == 0) = false := beq_eq_false_iff_ne.mpr c5; have c5b1 : (a0_0 != 0) = true := bne_iff_ne.mpr c5
   by_cases c6 : a0_1 = 0
   ·rw [if_pos c6] at H; exact absurd H (by simp)
   ·rw [if_neg c6] at H; have c6b0 : (a0_1 == 0) = false := beq_eq_false_iff_ne.mpr c6; have c6b1 : (a0_1 != 0) = true := bne_iff_ne.mpr c6; simp only [Option.some.injEq, Prod.mk.injEq] at H; obtain ⟨rfl, rfl, rfl⟩ := H
    go_enter Try.func121, Try.ntmps121
    go_wp2_with (first | ((with_reducible refine gate_dst (N := 2) rfl ?_); refine box_event ?hg (N := 2) ?hd (cs := #[.int .i64 a0_0, .int .i64 a0_1, .int .i64 a0_2, .slice A0_3 l0_3.length c0_3, .slice A0_4 l0_4.length c0_4]) (t := 24) ?hr ?_; (case hd => rfl); (case hg => rfl); (case hr => first | (go_simp; done) | (go_simp; rfl)); intro gb288 hg w7 hbox hb; have BK288 := ak (hbox); have GW288 := gw_ hg HB.1.size; have GE288 := gw_ hg HB.1.size; replace HB := ak (below_step HB.1 hb); clear hb hbox hg; obtain ⟨hcz8_0, hcz8_1, hcz8_2, hcz8_3, hcz8_4, hfz8_0, hfz8_1, hfz8_2, hfz8_3, hfz8_4⟩ := bk5 BK288.1) | (go_at_call 120; (with_reducible refine (taquinref07_Is.calls a0_0 a0_1 a0_2 _ _ l0_3 _ _ l0_4 a1 true _ ?side1 ?side2 ?side3 ?side4 A3.1).mono ?_); (case side1 => exact (Kd.C_below HR0_3.1 HB.1)); (case side2 => exact HC0_3.1); (case side3 => exact (Kd.C_below HR0_4.1 HB.1)); (case side4 => exact HC0_4.1); rintro e w9 ⟨rfl, hb⟩; replace BK288 := ak (blk_below BK288.1 hb); replace HB := ak (below_step HB.1 hb); (try clear hb); obtain ⟨hcz10_0, hcz10_1, hcz10_2, hcz10_3, hcz10_4, hfz10_0, hfz10_1, hfz10_2, hfz10_3, hfz10_4⟩ := bk5 BK288.1))
    repeat (go_quiet (first | ((with_reducible refine gate_dst (N := 2) rfl ?_); refine box_event ?hg (N := 2) ?hd (cs := #[.int .i64 a0_0, .int .i64 a0_1, .int .i64 a0_2, .slice A0_3 l0_3.length c0_3, .slice A0_4 l0_4.length c0_4]) (t := 24) ?hr ?_; (case hd => rfl); (case hg => rfl); (case hr => first | (go_simp; done) | (go_simp; rfl)); intro gb288 hg w7 hbox hb; have BK288 := ak (hbox); have GW288 := gw_ hg HB.1.size; have GE288 := gw_ hg HB.1.size; replace HB := ak (below_step HB.1 hb); clear hb hbox hg; obtain ⟨hcz8_0, hcz8_1, hcz8_2, hcz8_3, hcz8_4, hfz8_0, hfz8_1, hfz8_2, hfz8_3, hfz8_4⟩ := bk5 BK288.1) | (go_at_call 120; (with_reducible refine (taquinref07_Is.calls a0_0 a0_1 a0_2 _ _ l0_3 _ _ l0_4 a1 true _ ?side1 ?side2 ?side3 ?side4 A3.1).mono ?_); (case side1 => exact (Kd.C_below HR0_3.1 HB.1)); (case side2 => exact HC0_3.1); (case side3 => exact (Kd.C_below HR0_4.1 HB.1)); (case side4 => exact HC0_4.1); rintro e w9 ⟨rfl, hb⟩; replace BK288 := ak (blk_below BK288.1 hb); replace HB := ak (below_step HB.1 hb); (try clear hb); obtain ⟨hcz10_0, hcz10_1, hcz10_2, hcz10_3, hcz10_4, hfz10_0, hfz10_1, hfz10_2, hfz10_3, hfz10_4⟩ := bk5 BK288.1)); try go_wp2_with (first | ((with_reducible refine gate_dst (N := 2) rfl ?_); refine box_event ?hg (N := 2) ?hd (cs := #[.int .i64 a0_0, .int .i64 a0_1, .int .i64 a0_2, .slice A0_3 l0_3.length c0_3, .slice A0_4 l0_4.length c0_4]) (t := 24) ?hr ?_; (case hd => rfl); (case hg => rfl); (case hr => first | (go_simp; done) | (go_simp; rfl)); intro gb288 hg w7 hbox hb; have BK288 := ak (hbox); have GW288 := gw_ hg HB.1.size; have GE288 := gw_ hg HB.1.size; replace HB := ak (below_step HB.1 hb); clear hb hbox hg; obtain ⟨hcz8_0, hcz8_1, hcz8_2, hcz8_3, hcz8_4, hfz8_0, hfz8_1, hfz8_2, hfz8_3, hfz8_4⟩ := bk5 BK288.1) | (go_at_call 120; (with_reducible refine (taquinref07_Is.calls a0_0 a0_1 a0_2 _ _ l0_3 _ _ l0_4 a1 true _ ?side1 ?side2 ?side3 ?side4 A3.1).mono ?_); (case side1 => exact (Kd.C_below HR0_3.1 HB.1)); (case side2 => exact HC0_3.1); (case side3 => exact (Kd.C_below HR0_4.1 HB.1)); (case side4 => exact HC0_4.1); rintro e w9 ⟨rfl, hb⟩; replace BK288 := ak (blk_below BK288.1 hb); replace HB := ak (below_step HB.1 hb); (try clear hb); obtain ⟨hcz10_0, hcz10_1, hcz10_2, hcz10_3, hcz10_4, hfz10_0, hfz10_1, hfz10_2, hfz10_3, hfz10_4⟩ := bk5 BK288.1)))
    go_ret3
    exact ⟨er_, hq1_ HB.1 GE288.1⟩
 ·replace c4 := Bool.eq_false_iff.mpr c4; subst c4
  have H1 : (some (0, 0, 0)) = some (r1, r2, r3) := by rw [if_neg (show ¬ (false = true) by decide)] at H; exact H
  clear H; have H := H1; clear H1; simp only [Option.some.injEq, Prod.mk.injEq] at H; obtain ⟨rfl, rfl, rfl⟩ := H
  go_enter Try.func121, Try.ntmps121
  go_wp2_with (first | ((with_reducible refine gate_dst (N := 2) rfl ?_); refine box_event ?hg (N := 2) ?hd (cs := #[.int .i64 a0_0, .int .i64 a0_1, .int .i64 a0_2, .slice A0_3 l0_3.length c0_3, .slice A0_4 l0_4.length c0_4]) (t := 24) ?hr ?_; (case hd => rfl); (case hg => rfl); (case hr => first | (go_simp; done) | (go_simp; rfl)); intro gb288 hg w11 hbox hb; have BK288 := ak (hbox); have GW288 := gw_ hg HB.1.size; have GE288 := gw_ hg HB.1.size; replace HB := ak (below_step HB.1 hb); clear hb hbox hg; obtain ⟨hcz12_0, hcz12_1, hcz12_2, hcz12_3, hcz12_4, hfz12_0, hfz12_1, hfz12_2, hfz12_3, hfz12_4⟩ := bk5 BK288.1) | (go_at_call 120; (with_reducible refine (taquinref07_Is.calls a0_0 a0_1 a0_2 _ _ l0_3 _ _ l0_4 a1 false _ ?side1 ?side2 ?side3 ?side4 A3.1).mono ?_); (case side1 => exact (Kd.C_below HR0_3.1 HB.1)); (case side2 => exact HC0_3.1); (case side3 => exact (Kd.C_below HR0_4.1 HB.1)); (case side4 => exact HC0_4.1); rintro e w13 ⟨rfl, hb⟩; replace BK288 := ak (blk_below BK288.1 hb); replace HB := ak (below_step HB.1 hb); (try clear hb)))
  repeat (go_quiet (first | ((with_reducible refine gate_dst (N := 2) rfl ?_); refine box_event ?hg (N := 2) ?hd (cs := #[.int .i64 a0_0, .int .i64 a0_1, .int .i64 a0_2, .slice A0_3 l0_3.length c0_3, .slice A0_4 l0_4.length c0_4]) (t := 24) ?hr ?_; (case hd => rfl); (case hg => rfl); (case hr => first | (go_simp; done) | (go_simp; rfl)); intro gb288 hg w11 hbox hb; have BK288 := ak (hbox); have GW288 := gw_ hg HB.1.size; have GE288 := gw_ hg HB.1.size; replace HB := ak (below_step HB.1 hb); clear hb hbox hg; obtain ⟨hcz12_0, hcz12_1, hcz12_2, hcz12_3, hcz12_4, hfz12_0, hfz12_1, hfz12_2, hfz12_3, hfz12_4⟩ := bk5 BK288.1) | (go_at_call 120; (with_reducible refine (taquinref07_Is.calls a0_0 a0_1 a0_2 _ _ l0_3 _ _ l0_4 a1 false _ ?side1 ?side2 ?side3 ?side4 A3.1).mono ?_); (case side1 => exact (Kd.C_below HR0_3.1 HB.1)); (case side2 => exact HC0_3.1); (case side3 => exact (Kd.C_below HR0_4.1 HB.1)); (case side4 => exact HC0_4.1); rintro e w13 ⟨rfl, hb⟩; replace BK288 := ak (blk_below BK288.1 hb); replace HB := ak (below_step HB.1 hb); (try clear hb))); try go_wp2_with (first | ((with_reducible refine gate_dst (N := 2) rfl ?_); refine box_event ?hg (N := 2) ?hd (cs := #[.int .i64 a0_0, .int .i64 a0_1, .int .i64 a0_2, .slice A0_3 l0_3.length c0_3, .slice A0_4 l0_4.length c0_4]) (t := 24) ?hr ?_; (case hd => rfl); (case hg => rfl); (case hr => first | (go_simp; done) | (go_simp; rfl)); intro gb288 hg w11 hbox hb; have BK288 := ak (hbox); have GW288 := gw_ hg HB.1.size; have GE288 := gw_ hg HB.1.size; replace HB := ak (below_step HB.1 hb); clear hb hbox hg; obtain ⟨hcz12_0, hcz12_1, hcz12_2, hcz12_3, hcz12_4, hfz12_0, hfz12_1, hfz12_2, hfz12_3, hfz12_4⟩ := bk5 BK288.1) | (go_at_call 120; (with_reducible refine (taquinref07_Is.calls a0_0 a0_1 a0_2 _ _ l0_3 _ _ l0_4 a1 false _ ?side1 ?side2 ?side3 ?side4 A3.1).mono ?_); (case side1 => exact (Kd.C_below HR0_3.1 HB.1)); (case side2 => exact HC0_3.1); (case side3 => exact (Kd.C_below HR0_4.1 HB.1)); (case side4 => exact HC0_4.1); rintro e w13 ⟨rfl, hb⟩; replace BK288 := ak (blk_below BK288.1 hb); replace HB := ak (below_step HB.1 hb); (try clear hb))))
  go_ret3
  exact ⟨er_, hq1_ HB.1 GE288.1⟩
def taquinref07_Cell.f (a0_0 : Int) (a0_1 : Int) (a0_2 : Int) (l0_3 : List Int) (l0_4 : List Int) (a1 : Int) (a2 : Int) (a3 : Int) : Option (Int) := if a1 < 0 then (some (-1)) else (if a1 ≥ a0_0 then (some (-1)) else (if a2 < 0 then (some (-1)) else (if a2 ≥ a0_1 then (some (-1)) else (if a3 < 0 then (some (-1)) else (if a3 ≥ a0_2 then (some (-1)) else (some (wrap64 ((wrap64 ((wrap64 ((wrap64 (a3 * a0_1)) + a2)) * a0_0)) + a1))))))))
set_option maxHeartbeats 8000000 in
set_option maxRecDepth 100000 in
theorem taquinref07_Cell.calls (a0_0 : Int) (a0_1 : Int) (a0_2 : Int) (A0_3 : Option Addr) (c0_3 : Nat) (l0_3 : List Int) (A0_4 : Option Addr) (c0_4 : Nat) (l0_4 : List Int) (a1 : Int) (a2 : Int) (a3 : Int) (r : Int) (w : World) (hr0_3 : Kd.C (Kd.int .i64) w A0_3 l0_3.length l0_3) (hc0_3 : l0_3.length ≤ c0_3) (hr0_4 : Kd.C (Kd.int .i64) w A0_4 l0_4.length l0_4) (hc0_4 : l0_4.length ≤ c0_4) (h : taquinref07_Cell.f a0_0 a0_1 a0_2 l0_3 l0_4 a1 a2 a3 = some r) :
  Calls Try.prog 122 #[.agg #[.int .i64 a0_0, .int .i64 a0_1, .int .i64 a0_2, .slice A0_3 l0_3.length c0_3, .slice A0_4 l0_4.length c0_4], .int .i64 a1, .int .i64 a2, .int .i64 a3] w fun e w' => e = .returned (.int .i64 r) ∧ Below w.heap.size w w' := by
 have hu24 := Try.underlying24; have HR0_3 := ak hr0_3; have HC0_3 := ak hc0_3; clear hr0_3 hc0_3; have HR0_4 := ak hr0_4; have HC0_4 := ak hc0_4; clear hr0_4 hc0_4; have HB := ak (Below.refl w.heap.size w); have H : (if a1 < 0 then (some (-1)) else (if a1 ≥ a0_0 then (some (-1)) else (if a2 < 0 then (some (-1)) else (if a2 ≥ a0_1 then (some (-1)) else (if a3 < 0 then (some (-1)) else (if a3 ≥ a0_2 then (some (-1)) else (some (wrap64 ((wrap64 ((wrap64 ((wrap64 (a3 * a0_1)) + a2)) * a0_0)) + a1))))))))) = some r := h; clear h
 by_cases c5 : a1 < 0
 ·rw [if_pos c5] at H; have c5b0 : decide (a1 < 0) = true := decide_eq_true c5; clear c5; obtain rfl := Option.some.inj H
  go_enter Try.func122, Try.ntmps122
  go_wp2_with (first | ((with_reducible refine gate_dst (N := 4) rfl ?_); refine box_event ?hg (N := 4) ?hd (cs := #[.int .i64 a0_0, .int .i64 a0_1, .int .i64 a0_2, .slice A0_3 l0_3.length c0_3, .slice A0_4 l0_4.length c0_4]) (t := 24) ?hr ?_; (case hd => rfl); (case hg => rfl); (case hr => first | (go_simp; done) | (go_simp; rfl)); intro gb290 hg w6 hbox hb; have BK290 := ak (hbox); have GW290 := gw_ hg HB.1.size; have GE290 := gw_ hg HB.1.size; replace HB := ak (below_step HB.1 hb); clear hb hbox hg))
  go_ret
  exact ⟨er_, hq1_ HB.1 GE290.1⟩
 ·rw [if_neg c5] at H; have c5b0 : decide (a1 < 0) = false := decide_eq_false c5; clear c5
  by_cases c7 : a1 ≥ a0_0
  ·rw [if_pos c7] at H; have c7b0 : decide (a0_0 ≤ a1) = true := decide_eq_true c7; clear c7; obtain rfl := Option.some.inj H
   go_enter Try.func122, Try.ntmps122
   go_wp2_with (first | ((with_reducible refine gate_dst (N := 4) rfl ?_); refine box_event ?hg (N := 4) ?hd (cs := #[.int .i64 a0_0, .int .i64 a0_1, .int .i64 a0_2, .slice A0_3 l0_3.length c0_3, .slice A0_4 l0_4.length c0_4]) (t := 24) ?hr ?_; (case hd => rfl); (case hg => rfl); (case hr => first | (go_simp; done) | (go_simp; rfl)); intro gb290 hg w8 hbox hb; have BK290 := ak (hbox); have GW290 := gw_ hg HB.1.size; have GE290 := gw_ hg HB.1.size; replace HB := ak (below_step HB.1 hb); clear hb hbox hg; obtain ⟨hcz9_0, hcz9_1, hcz9_2, hcz9_3, hcz9_4, hfz9_0, hfz9_1, hfz9_2, hfz9_3, hfz9_4⟩ := bk5 BK290.1))
   go_ret
   exact ⟨er_, hq1_ HB.1 GE290.1⟩
  ·rw [if_neg c7] at H; have c7b0 : decide (a0_0 ≤ a1) = false := decide_eq_false c7; clear c7
   by_cases c10 : a2 < 0
   ·rw [if_pos c10] at H; have c10b0 : decide (a2 < 0) = true := decide_eq_true c10; clear c10; obtain rfl := Option.some.inj H
    go_enter Try.func122, Try.ntmps122
    go_wp2_with (first | ((with_reducible refine gate_dst (N := 4) rfl ?_); refine box_event ?hg (N := 4) ?hd (cs := #[.int .i64 a0_0, .int .i64 a0_1, .int .i64 a0_2, .slice A0_3 l0_3.length c0_3, .slice A0_4 l0_4.length c0_4]) (t := 24) ?hr ?_; (case hd => rfl); (case hg => rfl); (case hr => first | (go_simp; done) | (go_simp; rfl)); intro gb290 hg w11 hbox hb; have BK290 := ak (hbox); have GW290 := gw_ hg HB.1.size; have GE290 := gw_ hg HB.1.size; replace HB := ak (below_step HB.1 hb); clear hb hbox hg; obtain ⟨hcz12_0, hcz12_1, hcz12_2, hcz12_3, hcz12_4, hfz12_0, hfz12_1, hfz12_2, hfz12_3, hfz12_4⟩ := bk5 BK290.1))
    go_ret
    exact ⟨er_, hq1_ HB.1 GE290.1⟩
   ·rw [if_neg c10] at H; have c10b0 : decide (a2 < 0) = false := decide_eq_false c10; clear c10
    by_cases c13 : a2 ≥ a0_1
    ·rw [if_pos c13] at H; have c13b0 : decide (a0_1 ≤ a2) = true := decide_eq_true c13; clear c13; obtain rfl := Option.some.inj H
     go_enter Try.func122, Try.ntmps122
     go_wp2_with (first | ((with_reducible refine gate_dst (N := 4) rfl ?_); refine box_event ?hg (N := 4) ?hd (cs := #[.int .i64 a0_0, .int .i64 a0_1, .int .i64 a0_2, .slice A0_3 l0_3.length c0_3, .slice A0_4 l0_4.length c0_4]) (t := 24) ?hr ?_; (case hd => rfl); (case hg => rfl); (case hr => first | (go_simp; done) | (go_simp; rfl)); intro gb290 hg w14 hbox hb; have BK290 := ak (hbox); have GW290 := gw_ hg HB.1.size; have GE290 := gw_ hg HB.1.size; replace HB := ak (below_step HB.1 hb); clear hb hbox hg; obtain ⟨hcz15_0, hcz15_1, hcz15_2, hcz15_3, hcz15_4, hfz15_0, hfz15_1, hfz15_2, hfz15_3, hfz15_4⟩ := bk5 BK290.1))
     go_ret
     exact ⟨er_, hq1_ HB.1 GE290.1⟩
    ·rw [if_neg c13] at H; have c13b0 : decide (a0_1 ≤ a2) = false := decide_eq_false c13; clear c13
     by_cases c16 : a3 < 0
     ·rw [if_pos c16] at H; have c16b0 : decide (a3 < 0) = true := decide_eq_true c16; clear c16; obtain rfl := Option.some.inj H
      go_enter Try.func122, Try.ntmps122
      go_wp2_with (first | ((with_reducible refine gate_dst (N := 4) rfl ?_); refine box_event ?hg (N := 4) ?hd (cs := #[.int .i64 a0_0, .int .i64 a0_1, .int .i64 a0_2, .slice A0_3 l0_3.length c0_3, .slice A0_4 l0_4.length c0_4]) (t := 24) ?hr ?_; (case hd => rfl); (case hg => rfl); (case hr => first | (go_simp; done) | (go_simp; rfl)); intro gb290 hg w17 hbox hb; have BK290 := ak (hbox); have GW290 := gw_ hg HB.1.size; have GE290 := gw_ hg HB.1.size; replace HB := ak (below_step HB.1 hb); clear hb hbox hg; obtain ⟨hcz18_0, hcz18_1, hcz18_2, hcz18_3, hcz18_4, hfz18_0, hfz18_1, hfz18_2, hfz18_3, hfz18_4⟩ := bk5 BK290.1))
      go_ret
      exact ⟨er_, hq1_ HB.1 GE290.1⟩
     ·rw [if_neg c16] at H; have c16b0 : decide (a3 < 0) = false := decide_eq_false c16; clear c16
      by_cases c19 : a3 ≥ a0_2
      ·rw [if_pos c19] at H; have c19b0 : decide (a0_2 ≤ a3) = true := decide_eq_true c19; clear c19; obtain rfl := Option.some.inj H
       go_enter Try.func122, Try.ntmps122
       go_wp2_with (first | ((with_reducible refine gate_dst (N := 4) rfl ?_); refine box_event ?hg (N := 4) ?hd (cs := #[.int .i64 a0_0, .int .i64 a0_1, .int .i64 a0_2, .slice A0_3 l0_3.length c0_3, .slice A0_4 l0_4.length c0_4]) (t := 24) ?hr ?_; (case hd => rfl); (case hg => rfl); (case hr => first | (go_simp; done) | (go_simp; rfl)); intro gb290 hg w20 hbox hb; have BK290 := ak (hbox); have GW290 := gw_ hg HB.1.size; have GE290 := gw_ hg HB.1.size; replace HB := ak (below_step HB.1 hb); clear hb hbox hg; obtain ⟨hcz21_0, hcz21_1, hcz21_2, hcz21_3, hcz21_4, hfz21_0, hfz21_1, hfz21_2, hfz21_3, hfz21_4⟩ := bk5 BK290.1))
       go_ret
       exact ⟨er_, hq1_ HB.1 GE290.1⟩
      ·rw [if_neg c19] at H; have c19b0 : decide (a0_2 ≤ a3) = false := decide_eq_false c19; clear c19; obtain rfl := Option.some.inj H
       go_enter Try.func122, Try.ntmps122
       go_wp2_with (first | ((with_reducible refine gate_dst (N := 4) rfl ?_); refine box_event ?hg (N := 4) ?hd (cs := #[.int .i64 a0_0, .int .i64 a0_1, .int .i64 a0_2, .slice A0_3 l0_3.length c0_3, .slice A0_4 l0_4.length c0_4]) (t := 24) ?hr ?_; (case hd => rfl); (case hg => rfl); (case hr => first | (go_simp; done) | (go_simp; rfl)); intro gb290 hg w22 hbox hb; have BK290 := ak (hbox); have GW290 := gw_ hg HB.1.size; have GE290 := gw_ hg HB.1.size; replace HB := ak (below_step HB.1 hb); clear hb hbox hg; obtain ⟨hcz23_0, hcz23_1, hcz23_2, hcz23_3, hcz23_4, hfz23_0, hfz23_1, hfz23_2, hfz23_3, hfz23_4⟩ := bk5 BK290.1))
       go_ret
       exact ⟨er_, hq1_ HB.1 GE290.1⟩
def taquinref07_Beside.f (a0_0 : Int) (a0_1 : Int) (a0_2 : Int) (l0_3 : List Int) (l0_4 : List Int) (a1 : Int) (a2 : Int) : Option (Int) := (taquinref07_Is.f a0_0 a0_1 a0_2 l0_3 l0_4 a1).bind fun t292 => (if t292 = true then ((taquinref07_At.f a0_0 a0_1 a0_2 l0_3 l0_4 a1).bind fun bt293 => (if a2 = 0 then ((taquinref07_Cell.f a0_0 a0_1 a0_2 l0_3 l0_4 (wrap64 (bt293.1 + 1)) bt293.2.1 bt293.2.2).bind fun t296 => (some t296)) else (if a2 = 1 then ((taquinref07_Cell.f a0_0 a0_1 a0_2 l0_3 l0_4 bt293.1 (wrap64 (bt293.2.1 + 1)) bt293.2.2).bind fun t297 => (some t297)) else (if a2 = 2 then ((taquinref07_Cell.f a0_0 a0_1 a0_2 l0_3 l0_4 (wrap64 (bt293.1 - 1)) bt293.2.1 bt293.2.2).bind fun t298 => (some t298)) else (if a2 = 3 then ((taquinref07_Cell.f a0_0 a0_1 a0_2 l0_3 l0_4 bt293.1 (wrap64 (bt293.2.1 - 1)) bt293.2.2).bind fun t299 => (some t299)) else (if a2 = 4 then ((taquinref07_Cell.f a0_0 a0_1 a0_2 l0_3 l0_4 bt293.1 bt293.2.1 (wrap64 (bt293.2.2 + 1))).bind fun t300 => (some t300)) else (if a2 = 5 then ((taquinref07_Cell.f a0_0 a0_1 a0_2 l0_3 l0_4 bt293.1 bt293.2.1 (wrap64 (bt293.2.2 - 1))).bind fun t301 => (some t301)) else (some (-1))))))))) else (some (-1)))
set_option maxHeartbeats 8000000 in
set_option maxRecDepth 100000 in
theorem taquinref07_Beside.calls (a0_0 : Int) (a0_1 : Int) (a0_2 : Int) (A0_3 : Option Addr) (c0_3 : Nat) (l0_3 : List Int) (A0_4 : Option Addr) (c0_4 : Nat) (l0_4 : List Int) (a1 : Int) (a2 : Int) (r : Int) (w : World) (hr0_3 : Kd.C (Kd.int .i64) w A0_3 l0_3.length l0_3) (hc0_3 : l0_3.length ≤ c0_3) (hr0_4 : Kd.C (Kd.int .i64) w A0_4 l0_4.length l0_4) (hc0_4 : l0_4.length ≤ c0_4) (h : taquinref07_Beside.f a0_0 a0_1 a0_2 l0_3 l0_4 a1 a2 = some r) :
  Calls Try.prog 100 #[.agg #[.int .i64 a0_0, .int .i64 a0_1, .int .i64 a0_2, .slice A0_3 l0_3.length c0_3, .slice A0_4 l0_4.length c0_4], .int .i64 a1, .int .i64 a2] w fun e w' => e = .returned (.int .i64 r) ∧ Below w.heap.size w w' := by
 have hu24 := Try.underlying24; have HR0_3 := ak hr0_3; have HC0_3 := ak hc0_3; clear hr0_3 hc0_3; have HR0_4 := ak hr0_4; have HC0_4 := ak hc0_4; clear hr0_4 hc0_4; have HB := ak (Below.refl w.heap.size w); have H : ((taquinref07_Is.f a0_0 a0_1 a0_2 l0_3 l0_4 a1).bind fun t292 => (if t292 = true then ((taquinref07_At.f a0_0 a0_1 a0_2 l0_3 l0_4 a1).bind fun bt293 => (if a2 = 0 then ((taquinref07_Cell.f a0_0 a0_1 a0_2 l0_3 l0_4 (wrap64 (bt293.1 + 1)) bt293.2.1 bt293.2.2).bind fun t296 => (some t296)) else (if a2 = 1 then ((taquinref07_Cell.f a0_0 a0_1 a0_2 l0_3 l0_4 bt293.1 (wrap64 (bt293.2.1 + 1)) bt293.2.2).bind fun t297 => (some t297)) else (if a2 = 2 then ((taquinref07_Cell.f a0_0 a0_1 a0_2 l0_3 l0_4 (wrap64 (bt293.1 - 1)) bt293.2.1 bt293.2.2).bind fun t298 => (some t298)) else (if a2 = 3 then ((taquinref07_Cell.f a0_0 a0_1 a0_2 l0_3 l0_4 bt293.1 (wrap64 (bt293.2.1 - 1)) bt293.2.2).bind fun t299 => (some t299)) else (if a2 = 4 then ((taquinref07_Cell.f a0_0 a0_1 a0_2 l0_3 l0_4 bt293.1 bt293.2.1 (wrap64 (bt293.2.2 + 1))).bind fun t300 => (some t300)) else (if a2 = 5 then ((taquinref07_Cell.f a0_0 a0_1 a0_2 l0_3 l0_4 bt293.1 bt293.2.1 (wrap64 (bt293.2.2 - 1))).bind fun t301 => (some t301)) else (some (-1))))))))) else (some (-1)))) = some r := h; clear h; replace H := Option.bind_eq_some_iff.mp H; obtain ⟨t292, A40, H⟩ := H
 replace H : (if t292 = true then ((taquinref07_At.f a0_0 a0_1 a0_2 l0_3 l0_4 a1).bind fun bt293 => (if a2 = 0 then ((taquinref07_Cell.f a0_0 a0_1 a0_2 l0_3 l0_4 (wrap64 (bt293.1 + 1)) bt293.2.1 bt293.2.2).bind fun t296 => (some t296)) else (if a2 = 1 then ((taquinref07_Cell.f a0_0 a0_1 a0_2 l0_3 l0_4 bt293.1 (wrap64 (bt293.2.1 + 1)) bt293.2.2).bind fun t297 => (some t297)) else (if a2 = 2 then ((taquinref07_Cell.f a0_0 a0_1 a0_2 l0_3 l0_4 (wrap64 (bt293.1 - 1)) bt293.2.1 bt293.2.2).bind fun t298 => (some t298)) else (if a2 = 3 then ((taquinref07_Cell.f a0_0 a0_1 a0_2 l0_3 l0_4 bt293.1 (wrap64 (bt293.2.1 - 1)) bt293.2.2).bind fun t299 => (some t299)) else (if a2 = 4 then ((taquinref07_Cell.f a0_0 a0_1 a0_2 l0_3 l0_4 bt293.1 bt293.2.1 (wrap64 (bt293.2.2 + 1))).bind fun t300 => (some t300)) else (if a2 = 5 then ((taquinref07_Cell.f a0_0 a0_1 a0_2 l0_3 l0_4 bt293.1 bt293.2.1 (wrap64 (bt293.2.2 - 1))).bind fun t301 => (some t301)) else (some (-1))))))))) else (some (-1))) = some r := H
 have A4 := ak A40; clear A40
 by_cases c5 : t292 = true
 ·subst c5
  have H1 : ((taquinref07_At.f a0_0 a0_1 a0_2 l0_3 l0_4 a1).bind fun bt293 => (if a2 = 0 then ((taquinref07_Cell.f a0_0 a0_1 a0_2 l0_3 l0_4 (wrap64 (bt293.1 + 1)) bt293.2.1 bt293.2.2).bind fun t296 => (some t296)) else (if a2 = 1 then ((taquinref07_Cell.f a0_0 a0_1 a0_2 l0_3 l0_4 bt293.1 (wrap64 (bt293.2.1 + 1)) bt293.2.2).bind fun t297 => (some t297)) else (if a2 = 2 then ((taquinref07_Cell.f a0_0 a0_1 a0_2 l0_3 l0_4 (wrap64 (bt293.1 - 1)) bt293.2.1 bt293.2.2).bind fun t298 => (some t298)) else (if a2 = 3 then ((taquinref07_Cell.f a0_0 a0_1 a0_2 l0_3 l0_4 bt293.1 (wrap64 (bt293.2.1 - 1)) bt293.2.2).bind fun t299 => (some t299)) else (if a2 = 4 then ((taquinref07_Cell.f a0_0 a0_1 a0_2 l0_3 l0_4 bt293.1 bt293.2.1 (wrap64 (bt293.2.2 + 1))).bind fun t300 => (some t300)) else (if a2 = 5 then ((taquinref07_Cell.f a0_0 a0_1 a0_2 l0_3 l0_4 bt293.1 bt293.2.1 (wrap64 (bt293.2.2 - 1))).bind fun t301 => (some t301)) else (some (-1))))))))) = some r := by rw [if_pos rfl] at H; exact H
  clear H; have H := H1; clear H1; replace H := Option.bind_eq_some_iff.mp H; obtain ⟨⟨t293, t294, t295⟩, A60, H⟩ := H
  replace H : (if a2 = 0 then ((taquinref07_Cell.f a0_0 a0_1 a0_2 l0_3 l0_4 (wrap64 (t293 + 1)) t294 t295).bind fun t296 => (some t296)) else (if a2 = 1 then ((taquinref07_Cell.f a0_0 a0_1 a0_2 l0_3 l0_4 t293 (wrap64 (t294 + 1)) t295).bind fun t297 => (some t297)) else (if a2 = 2 then ((taquinref07_Cell.f a0_0 a0_1 a0_2 l0_3 l0_4 (wrap64 (t293 - 1)) t294 t295).bind fun t298 => (some t298)) else (if a2 = 3 then ((taquinref07_Cell.f a0_0 a0_1 a0_2 l0_3 l0_4 t293 (wrap64 (t294 - 1)) t295).bind fun t299 => (some t299)) else (if a2 = 4 then ((taquinref07_Cell.f a0_0 a0_1 a0_2 l0_3 l0_4 t293 t294 (wrap64 (t295 + 1))).bind fun t300 => (some t300)) else (if a2 = 5 then ((taquinref07_Cell.f a0_0 a0_1 a0_2 l0_3 l0_4 t293 t294 (wrap64 (t295 - 1))).bind fun t301 => (some t301)) else (some (-1)))))))) = some r := H
  have A6 := ak A60; clear A60
  by_cases c7 : a2 = 0
  ·rw [if_pos c7] at H; have c7b0 : (a2 == 0) = true := beq_iff_eq.mpr c7; have c7b1 : (a2 != 0) = false := bne_eq_false_iff_eq.mpr c7; clear c7; replace H := Option.bind_eq_some_iff.mp H; obtain ⟨t296, A80, H⟩ := H
   replace H : (some t296) = some r := H
   have A8 := ak A80; clear A80; obtain rfl := Option.some.inj H
   go_enter Try.func100, Try.ntmps100
   go_wp2_with (first | ((with_reducible refine gate_dst (N := 3) rfl ?_); refine box_event ?hg (N := 3) ?hd (cs := #[.int .i64 a0_0, .int .i64 a0_1, .int .i64 a0_2, .slice A0_3 l0_3.length c0_3, .slice A0_4 l0_4.length c0_4]) (t := 24) ?hr ?_; (case hd => rfl); (case hg => rfl); (case hr => first | (go_simp; done) | (go_simp; rfl)); intro gb291 hg w9 hbox hb; have BK291 := ak (hbox); have GW291 := gw_ hg HB.1.size; have GE291 := gw_ hg HB.1.size; replace HB := ak (below_step HB.1 hb); clear hb hbox hg; obtain ⟨hcz10_0, hcz10_1, hcz10_2, hcz10_3, hcz10_4, hfz10_0, hfz10_1, hfz10_2, hfz10_3, hfz10_4⟩ := bk5 BK291.1) | ((with_reducible refine gate_callee (f := 120) rfl ?_); refine goesL_ (some 12) rfl rfl Try.func120 (by kernel_rfl) rfl #[.agg #[.int .i64 a0_0, .int .i64 a0_1, .int .i64 a0_2, .slice A0_3 l0_3.length c0_3, .slice A0_4 l0_4.length c0_4], .int .i64 a1] rfl (sm_) ?_; (with_reducible refine (taquinref07_Is.calls a0_0 a0_1 a0_2 _ _ l0_3 _ _ l0_4 a1 true _ ?side1 ?side2 ?side3 ?side4 A4.1).mono ?_); (case side1 => exact (Kd.C_below HR0_3.1 HB.1)); (case side2 => exact HC0_3.1); (case side3 => exact (Kd.C_below HR0_4.1 HB.1)); (case side4 => exact HC0_4.1); rintro e w11 ⟨rfl, hb⟩; refine ⟨_, rfl, ?_⟩; replace BK291 := ak (blk_below BK291.1 hb); replace HB := ak (below_step HB.1 hb); (try clear hb); obtain ⟨hcz12_0, hcz12_1, hcz12_2, hcz12_3, hcz12_4, hfz12_0, hfz12_1, hfz12_2, hfz12_3, hfz12_4⟩ := bk5 BK291.1) | ((with_reducible refine gate_callee (f := 121) rfl ?_); refine goesL_ (some 17) rfl rfl Try.func121 (by kernel_rfl) rfl #[.agg #[.int .i64 a0_0, .int .i64 a0_1, .int .i64 a0_2, .slice A0_3 l0_3.length c0_3, .slice A0_4 l0_4.length c0_4], .int .i64 a1] rfl (sm_) ?_; (with_reducible refine (taquinref07_At.calls a0_0 a0_1 a0_2 _ _ l0_3 _ _ l0_4 a1 t293 t294 t295 _ ?side1 ?side2 ?side3 ?side4 A6.1).mono ?_); (case side1 => exact (Kd.C_below HR0_3.1 HB.1)); (case side2 => exact HC0_3.1); (case side3 => exact (Kd.C_below HR0_4.1 HB.1)); (case side4 => exact HC0_4.1); rintro e w13 ⟨rfl, hb⟩; refine ⟨_, rfl, ?_⟩; replace BK291 := ak (blk_below BK291.1 hb); replace HB := ak (below_step HB.1 hb); (try clear hb); obtain ⟨hcz14_0, hcz14_1, hcz14_2, hcz14_3, hcz14_4, hfz14_0, hfz14_1, hfz14_2, hfz14_3, hfz14_4⟩ := bk5 BK291.1) | ((with_reducible refine gate_callee (f := 122) rfl ?_); refine goesL_ (some 29) rfl rfl Try.func122 (by kernel_rfl) rfl #[.agg #[.int .i64 a0_0, .int .i64 a0_1, .int .i64 a0_2, .slice A0_3 l0_3.length c0_3, .slice A0_4 l0_4.length c0_4], .int .i64 (wrap64 (t293 + 1)), .int .i64 t294, .int .i64 t295] rfl (sm_) ?_; (with_reducible refine (taquinref07_Cell.calls a0_0 a0_1 a0_2 _ _ l0_3 _ _ l0_4 (wrap64 (t293 + 1)) t294 t295 t296 _ ?side1 ?side2 ?side3 ?side4 A8.1).mono ?_); (case side1 => exact (Kd.C_below HR0_3.1 HB.1)); (case side2 => exact HC0_3.1); (case side3 => exact (Kd.C_below HR0_4.1 HB.1)); (case side4 => exact HC0_4.1); rintro e w15 ⟨rfl, hb⟩; refine ⟨_, rfl, ?_⟩; replace BK291 := ak (blk_below BK291.1 hb); replace HB := ak (below_step HB.1 hb); (try clear hb)))
   go_ret
   exact ⟨er_, hq1_ HB.1 GE291.1⟩
  ·rw [if_neg c7] at H; have c7b0 : (a2 == 0) = false := beq_eq_false_iff_ne.mpr c7; have c7b1 : (a2 != 0) = true := bne_iff_ne.mpr c7
   by_cases c16 : a2 = 1
   ·rw [if_pos c16] at H; have c16b0 : (a2 == 1) = true := beq_iff_eq.mpr c16; have c16b1 : (a2 != 1) = false := bne_eq_false_iff_eq.mpr c16; clear c16; replace H := Option.bind_eq_some_iff.mp H; obtain ⟨t297, A170, H⟩ := H
    replace H : (some t297) = some r := H
    have A17 := ak A170; clear A170; obtain rfl := Option.some.inj H
    go_enter Try.func100, Try.ntmps100
    go_wp2_with (first | ((with_reducible refine gate_dst (N := 3) rfl ?_); refine box_event ?hg (N := 3) ?hd (cs := #[.int .i64 a0_0, .int .i64 a0_1, .int .i64 a0_2, .slice A0_3 l0_3.length c0_3, .slice A0_4 l0_4.length c0_4]) (t := 24) ?hr ?_; (case hd => rfl); (case hg => rfl); (case hr => first | (go_simp; done) | (go_simp; rfl)); intro gb291 hg w18 hbox hb; have BK291 := ak (hbox); have GW291 := gw_ hg HB.1.size; have GE291 := gw_ hg HB.1.size; replace HB := ak (below_step HB.1 hb); clear hb hbox hg; obtain ⟨hcz19_0, hcz19_1, hcz19_2, hcz19_3, hcz19_4, hfz19_0, hfz19_1, hfz19_2, hfz19_3, hfz19_4⟩ := bk5 BK291.1) | ((with_reducible refine gate_callee (f := 120) rfl ?_); refine goesL_ (some 12) rfl rfl Try.func120 (by kernel_rfl) rfl #[.agg #[.int .i64 a0_0, .int .i64 a0_1, .int .i64 a0_2, .slice A0_3 l0_3.length c0_3, .slice A0_4 l0_4.length c0_4], .int .i64 a1] rfl (sm_) ?_; (with_reducible refine (taquinref07_Is.calls a0_0 a0_1 a0_2 _ _ l0_3 _ _ l0_4 a1 true _ ?side1 ?side2 ?side3 ?side4 A4.1).mono ?_); (case side1 => exact (Kd.C_below HR0_3.1 HB.1)); (case side2 => exact HC0_3.1); (case side3 => exact (Kd.C_below HR0_4.1 HB.1)); (case side4 => exact HC0_4.1); rintro e w20 ⟨rfl, hb⟩; refine ⟨_, rfl, ?_⟩; replace BK291 := ak (blk_below BK291.1 hb); replace HB := ak (below_step HB.1 hb); (try clear hb); obtain ⟨hcz21_0, hcz21_1, hcz21_2, hcz21_3, hcz21_4, hfz21_0, hfz21_1, hfz21_2, hfz21_3, hfz21_4⟩ := bk5 BK291.1) | ((with_reducible refine gate_callee (f := 121) rfl ?_); refine goesL_ (some 17) rfl rfl Try.func121 (by kernel_rfl) rfl #[.agg #[.int .i64 a0_0, .int .i64 a0_1, .int .i64 a0_2, .slice A0_3 l0_3.length c0_3, .slice A0_4 l0_4.length c0_4], .int .i64 a1] rfl (sm_) ?_; (with_reducible refine (taquinref07_At.calls a0_0 a0_1 a0_2 _ _ l0_3 _ _ l0_4 a1 t293 t294 t295 _ ?side1 ?side2 ?side3 ?side4 A6.1).mono ?_); (case side1 => exact (Kd.C_below HR0_3.1 HB.1)); (case side2 => exact HC0_3.1); (case side3 => exact (Kd.C_below HR0_4.1 HB.1)); (case side4 => exact HC0_4.1); rintro e w22 ⟨rfl, hb⟩; refine ⟨_, rfl, ?_⟩; replace BK291 := ak (blk_below BK291.1 hb); replace HB := ak (below_step HB.1 hb); (try clear hb); obtain ⟨hcz23_0, hcz23_1, hcz23_2, hcz23_3, hcz23_4, hfz23_0, hfz23_1, hfz23_2, hfz23_3, hfz23_4⟩ := bk5 BK291.1) | ((with_reducible refine gate_callee (f := 122) rfl ?_); refine goesL_ (some 37) rfl rfl Try.func122 (by kernel_rfl) rfl #[.agg #[.int .i64 a0_0, .int .i64 a0_1, .int .i64 a0_2, .slice A0_3 l0_3.length c0_3, .slice A0_4 l0_4.length c0_4], .int .i64 t293, .int .i64 (wrap64 (t294 + 1)), .int .i64 t295] rfl (sm_) ?_; (with_reducible refine (taquinref07_Cell.calls a0_0 a0_1 a0_2 _ _ l0_3 _ _ l0_4 t293 (wrap64 (t294 + 1)) t295 t297 _ ?side1 ?side2 ?side3 ?side4 A17.1).mono ?_); (case side1 => exact (Kd.C_below HR0_3.1 HB.1)); (case side2 => exact HC0_3.1); (case side3 => exact (Kd.C_below HR0_4.1 HB.1)); (case side4 => exact HC0_4.1); rintro e w24 ⟨rfl, hb⟩; refine ⟨_, rfl, ?_⟩; replace BK291 := ak (blk_below BK291.1 hb); replace HB := ak (below_step HB.1 hb); (try clear hb)))
    go_ret
    exact ⟨er_, hq1_ HB.1 GE291.1⟩
   ·rw [if_neg c16] at H; have c16b0 : (a2 == 1) = false := beq_eq_false_iff_ne.mpr c16; have c16b1 : (a2 != 1) = true := bne_iff_ne.mpr c16
    by_cases c25 : a2 = 2
    ·rw [if_pos c25] at H; have c25b0 : (a2 == 2) = true := beq_iff_eq.mpr c25; have c25b1 : (a2 != 2) = false := bne_eq_false_iff_eq.mpr c25; clear c25; replace H := Option.bind_eq_some_iff.mp H; obtain ⟨t298, A260, H⟩ := H
     replace H : (some t298) = some r := H
     have A26 := ak A260; clear A260; obtain rfl := Option.some.inj H
     go_enter Try.func100, Try.ntmps100
     go_wp2_with (first | ((with_reducible refine gate_dst (N := 3) rfl ?_); refine box_event ?hg (N := 3) ?hd (cs := #[.int .i64 a0_0, .int .i64 a0_1, .int .i64 a0_2, .slice A0_3 l0_3.length c0_3, .slice A0_4 l0_4.length c0_4]) (t := 24) ?hr ?_; (case hd => rfl); (case hg => rfl); (case hr => first | (go_simp; done) | (go_simp; rfl)); intro gb291 hg w27 hbox hb; have BK291 := ak (hbox); have GW291 := gw_ hg HB.1.size; have GE291 := gw_ hg HB.1.size; replace HB := ak (below_step HB.1 hb); clear hb hbox hg; obtain ⟨hcz28_0, hcz28_1, hcz28_2, hcz28_3, hcz28_4, hfz28_0, hfz28_1, hfz28_2, hfz28_3, hfz28_4⟩ := bk5 BK291.1) | ((with_reducible refine gate_callee (f := 120) rfl ?_); refine goesL_ (some 12) rfl rfl Try.func120 (by kernel_rfl) rfl #[.agg #[.int .i64 a0_0, .int .i64 a0_1, .int .i64 a0_2, .slice A0_3 l0_3.length c0_3, .slice A0_4 l0_4.length c0_4], .int .i64 a1] rfl (sm_) ?_; (with_reducible refine (taquinref07_Is.calls a0_0 a0_1 a0_2 _ _ l0_3 _ _ l0_4 a1 true _ ?side1 ?side2 ?side3 ?side4 A4.1).mono ?_); (case side1 => exact (Kd.C_below HR0_3.1 HB.1)); (case side2 => exact HC0_3.1); (case side3 => exact (Kd.C_below HR0_4.1 HB.1)); (case side4 => exact HC0_4.1); rintro e w29 ⟨rfl, hb⟩; refine ⟨_, rfl, ?_⟩; replace BK291 := ak (blk_below BK291.1 hb); replace HB := ak (below_step HB.1 hb); (try clear hb); obtain ⟨hcz30_0, hcz30_1, hcz30_2, hcz30_3, hcz30_4, hfz30_0, hfz30_1, hfz30_2, hfz30_3, hfz30_4⟩ := bk5 BK291.1) | ((with_reducible refine gate_callee (f := 121) rfl ?_); refine goesL_ (some 17) rfl rfl Try.func121 (by kernel_rfl) rfl #[.agg #[.int .i64 a0_0, .int .i64 a0_1, .int .i64 a0_2, .slice A0_3 l0_3.length c0_3, .slice A0_4 l0_4.length c0_4], .int .i64 a1] rfl (sm_) ?_; (with_reducible refine (taquinref07_At.calls a0_0 a0_1 a0_2 _ _ l0_3 _ _ l0_4 a1 t293 t294 t295 _ ?side1 ?side2 ?side3 ?side4 A6.1).mono ?_); (case side1 => exact (Kd.C_below HR0_3.1 HB.1)); (case side2 => exact HC0_3.1); (case side3 => exact (Kd.C_below HR0_4.1 HB.1)); (case side4 => exact HC0_4.1); rintro e w31 ⟨rfl, hb⟩; refine ⟨_, rfl, ?_⟩; replace BK291 := ak (blk_below BK291.1 hb); replace HB := ak (below_step HB.1 hb); (try clear hb); obtain ⟨hcz32_0, hcz32_1, hcz32_2, hcz32_3, hcz32_4, hfz32_0, hfz32_1, hfz32_2, hfz32_3, hfz32_4⟩ := bk5 BK291.1) | ((with_reducible refine gate_callee (f := 122) rfl ?_); refine goesL_ (some 45) rfl rfl Try.func122 (by kernel_rfl) rfl #[.agg #[.int .i64 a0_0, .int .i64 a0_1, .int .i64 a0_2, .slice A0_3 l0_3.length c0_3, .slice A0_4 l0_4.length c0_4], .int .i64 (wrap64 (t293 - 1)), .int .i64 t294, .int .i64 t295] rfl (sm_) ?_; (with_reducible refine (taquinref07_Cell.calls a0_0 a0_1 a0_2 _ _ l0_3 _ _ l0_4 (wrap64 (t293 - 1)) t294 t295 t298 _ ?side1 ?side2 ?side3 ?side4 A26.1).mono ?_); (case side1 => exact (Kd.C_below HR0_3.1 HB.1)); (case side2 => exact HC0_3.1); (case side3 => exact (Kd.C_below HR0_4.1 HB.1)); (case side4 => exact HC0_4.1); rintro e w33 ⟨rfl, hb⟩; refine ⟨_, rfl, ?_⟩; replace BK291 := ak (blk_below BK291.1 hb); replace HB := ak (below_step HB.1 hb); (try clear hb)))
     go_ret
     exact ⟨er_, hq1_ HB.1 GE291.1⟩
    ·rw [if_neg c25] at H; have c25b0 : (a2 == 2) = false := beq_eq_false_iff_ne.mpr c25; have c25b1 : (a2 != 2) = true := bne_iff_ne.mpr c25
     by_cases c34 : a2 = 3
     ·rw [if_pos c34] at H; have c34b0 : (a2 == 3) = true := beq_iff_eq.mpr c34; have c34b1 : (a2 != 3) = false := bne_eq_false_iff_eq.mpr c34; clear c34; replace H := Option.bind_eq_some_iff.mp H; obtain ⟨t299, A350, H⟩ := H
      replace H : (some t299) = some r := H
      have A35 := ak A350; clear A350; obtain rfl := Option.some.inj H
      go_enter Try.func100, Try.ntmps100
      go_wp2_with (first | ((with_reducible refine gate_dst (N := 3) rfl ?_); refine box_event ?hg (N := 3) ?hd (cs := #[.int .i64 a0_0, .int .i64 a0_1, .int .i64 a0_2, .slice A0_3 l0_3.length c0_3, .slice A0_4 l0_4.length c0_4]) (t := 24) ?hr ?_; (case hd => rfl); (case hg => rfl); (case hr => first | (go_simp; done) | (go_simp; rfl)); intro gb291 hg w36 hbox hb; have BK291 := ak (hbox); have GW291 := gw_ hg HB.1.size; have GE291 := gw_ hg HB.1.size; replace HB := ak (below_step HB.1 hb); clear hb hbox hg; obtain ⟨hcz37_0, hcz37_1, hcz37_2, hcz37_3, hcz37_4, hfz37_0, hfz37_1, hfz37_2, hfz37_3, hfz37_4⟩ := bk5 BK291.1) | ((with_reducible refine gate_callee (f := 120) rfl ?_); refine goesL_ (some 12) rfl rfl Try.func120 (by kernel_rfl) rfl #[.agg #[.int .i64 a0_0, .int .i64 a0_1, .int .i64 a0_2, .slice A0_3 l0_3.length c0_3, .slice A0_4 l0_4.length c0_4], .int .i64 a1] rfl (sm_) ?_; (with_reducible refine (taquinref07_Is.calls a0_0 a0_1 a0_2 _ _ l0_3 _ _ l0_4 a1 true _ ?side1 ?side2 ?side3 ?side4 A4.1).mono ?_); (case side1 => exact (Kd.C_below HR0_3.1 HB.1)); (case side2 => exact HC0_3.1); (case side3 => exact (Kd.C_below HR0_4.1 HB.1)); (case side4 => exact HC0_4.1); rintro e w38 ⟨rfl, hb⟩; refine ⟨_, rfl, ?_⟩; replace BK291 := ak (blk_below BK291.1 hb); replace HB := ak (below_step HB.1 hb); (try clear hb); obtain ⟨hcz39_0, hcz39_1, hcz39_2, hcz39_3, hcz39_4, hfz39_0, hfz39_1, hfz39_2, hfz39_3, hfz39_4⟩ := bk5 BK291.1) | ((with_reducible refine gate_callee (f := 121) rfl ?_); refine goesL_ (some 17) rfl rfl Try.func121 (by kernel_rfl) rfl #[.agg #[.int .i64 a0_0, .int .i64 a0_1, .int .i64 a0_2, .slice A0_3 l0_3.length c0_3, .slice A0_4 l0_4.length c0_4], .int .i64 a1] rfl (sm_) ?_; (with_reducible refine (taquinref07_At.calls a0_0 a0_1 a0_2 _ _ l0_3 _ _ l0_4 a1 t293 t294 t295 _ ?side1 ?side2 ?side3 ?side4 A6.1).mono ?_); (case side1 => exact (Kd.C_below HR0_3.1 HB.1)); (case side2 => exact HC0_3.1); (case side3 => exact (Kd.C_below HR0_4.1 HB.1)); (case side4 => exact HC0_4.1); rintro e w40 ⟨rfl, hb⟩; refine ⟨_, rfl, ?_⟩; replace BK291 := ak (blk_below BK291.1 hb); replace HB := ak (below_step HB.1 hb); (try clear hb); obtain ⟨hcz41_0, hcz41_1, hcz41_2, hcz41_3, hcz41_4, hfz41_0, hfz41_1, hfz41_2, hfz41_3, hfz41_4⟩ := bk5 BK291.1) | ((with_reducible refine gate_callee (f := 122) rfl ?_); refine goesL_ (some 53) rfl rfl Try.func122 (by kernel_rfl) rfl #[.agg #[.int .i64 a0_0, .int .i64 a0_1, .int .i64 a0_2, .slice A0_3 l0_3.length c0_3, .slice A0_4 l0_4.length c0_4], .int .i64 t293, .int .i64 (wrap64 (t294 - 1)), .int .i64 t295] rfl (sm_) ?_; (with_reducible refine (taquinref07_Cell.calls a0_0 a0_1 a0_2 _ _ l0_3 _ _ l0_4 t293 (wrap64 (t294 - 1)) t295 t299 _ ?side1 ?side2 ?side3 ?side4 A35.1).mono ?_); (case side1 => exact (Kd.C_below HR0_3.1 HB.1)); (case side2 => exact HC0_3.1); (case side3 => exact (Kd.C_below HR0_4.1 HB.1)); (case side4 => exact HC0_4.1); rintro e w42 ⟨rfl, hb⟩; refine ⟨_, rfl, ?_⟩; replace BK291 := ak (blk_below BK291.1 hb); replace HB := ak (below_step HB.1 hb); (try clear hb)))
      go_ret
      exact ⟨er_, hq1_ HB.1 GE291.1⟩
     ·rw [if_neg c34] at H; have c34b0 : (a2 == 3) = false := beq_eq_false_iff_ne.mpr c34; have c34b1 : (a2 != 3) = true := bne_iff_ne.mpr c34
      by_cases c43 : a2 = 4
      ·rw [if_pos c43] at H; have c43b0 : (a2 == 4) = true := beq_iff_eq.mpr c43; have c43b1 : (a2 != 4) = false := bne_eq_false_iff_eq.mpr c43; clear c43; replace H := Option.bind_eq_some_iff.mp H; obtain ⟨t300, A440, H⟩ := H
       replace H : (some t300) = some r := H
       have A44 := ak A440; clear A440; obtain rfl := Option.some.inj H
       go_enter Try.func100, Try.ntmps100
       go_wp2_with (first | ((with_reducible refine gate_dst (N := 3) rfl ?_); refine box_event ?hg (N := 3) ?hd (cs := #[.int .i64 a0_0, .int .i64 a0_1, .int .i64 a0_2, .slice A0_3 l0_3.length c0_3, .slice A0_4 l0_4.length c0_4]) (t := 24) ?hr ?_; (case hd => rfl); (case hg => rfl); (case hr => first | (go_simp; done) | (go_simp; rfl)); intro gb291 hg w45 hbox hb; have BK291 := ak (hbox); have GW291 := gw_ hg HB.1.size; have GE291 := gw_ hg HB.1.size; replace HB := ak (below_step HB.1 hb); clear hb hbox hg; obtain ⟨hcz46_0, hcz46_1, hcz46_2, hcz46_3, hcz46_4, hfz46_0, hfz46_1, hfz46_2, hfz46_3, hfz46_4⟩ := bk5 BK291.1) | ((with_reducible refine gate_callee (f := 120) rfl ?_); refine goesL_ (some 12) rfl rfl Try.func120 (by kernel_rfl) rfl #[.agg #[.int .i64 a0_0, .int .i64 a0_1, .int .i64 a0_2, .slice A0_3 l0_3.length c0_3, .slice A0_4 l0_4.length c0_4], .int .i64 a1] rfl (sm_) ?_; (with_reducible refine (taquinref07_Is.calls a0_0 a0_1 a0_2 _ _ l0_3 _ _ l0_4 a1 true _ ?side1 ?side2 ?side3 ?side4 A4.1).mono ?_); (case side1 => exact (Kd.C_below HR0_3.1 HB.1)); (case side2 => exact HC0_3.1); (case side3 => exact (Kd.C_below HR0_4.1 HB.1)); (case side4 => exact HC0_4.1); rintro e w47 ⟨rfl, hb⟩; refine ⟨_, rfl, ?_⟩; replace BK291 := ak (blk_below BK291.1 hb); replace HB := ak (below_step HB.1 hb); (try clear hb); obtain ⟨hcz48_0, hcz48_1, hcz48_2, hcz48_3, hcz48_4, hfz48_0, hfz48_1, hfz48_2, hfz48_3, hfz48_4⟩ := bk5 BK291.1) | ((with_reducible refine gate_callee (f := 121) rfl ?_); refine goesL_ (some 17) rfl rfl Try.func121 (by kernel_rfl) rfl #[.agg #[.int .i64 a0_0, .int .i64 a0_1, .int .i64 a0_2, .slice A0_3 l0_3.length c0_3, .slice A0_4 l0_4.length c0_4], .int .i64 a1] rfl (sm_) ?_; (with_reducible refine (taquinref07_At.calls a0_0 a0_1 a0_2 _ _ l0_3 _ _ l0_4 a1 t293 t294 t295 _ ?side1 ?side2 ?side3 ?side4 A6.1).mono ?_); (case side1 => exact (Kd.C_below HR0_3.1 HB.1)); (case side2 => exact HC0_3.1); (case side3 => exact (Kd.C_below HR0_4.1 HB.1)); (case side4 => exact HC0_4.1); rintro e w49 ⟨rfl, hb⟩; refine ⟨_, rfl, ?_⟩; replace BK291 := ak (blk_below BK291.1 hb); replace HB := ak (below_step HB.1 hb); (try clear hb); obtain ⟨hcz50_0, hcz50_1, hcz50_2, hcz50_3, hcz50_4, hfz50_0, hfz50_1, hfz50_2, hfz50_3, hfz50_4⟩ := bk5 BK291.1) | ((with_reducible refine gate_callee (f := 122) rfl ?_); refine goesL_ (some 61) rfl rfl Try.func122 (by kernel_rfl) rfl #[.agg #[.int .i64 a0_0, .int .i64 a0_1, .int .i64 a0_2, .slice A0_3 l0_3.length c0_3, .slice A0_4 l0_4.length c0_4], .int .i64 t293, .int .i64 t294, .int .i64 (wrap64 (t295 + 1))] rfl (sm_) ?_; (with_reducible refine (taquinref07_Cell.calls a0_0 a0_1 a0_2 _ _ l0_3 _ _ l0_4 t293 t294 (wrap64 (t295 + 1)) t300 _ ?side1 ?side2 ?side3 ?side4 A44.1).mono ?_); (case side1 => exact (Kd.C_below HR0_3.1 HB.1)); (case side2 => exact HC0_3.1); (case side3 => exact (Kd.C_below HR0_4.1 HB.1)); (case side4 => exact HC0_4.1); rintro e w51 ⟨rfl, hb⟩; refine ⟨_, rfl, ?_⟩; replace BK291 := ak (blk_below BK291.1 hb); replace HB := ak (below_step HB.1 hb); (try clear hb)))
       go_ret
       exact ⟨er_, hq1_ HB.1 GE291.1⟩
      ·rw [if_neg c43] at H; have c43b0 : (a2 == 4) = false := beq_eq_false_iff_ne.mpr c43; have c43b1 : (a2 != 4) = true := bne_iff_ne.mpr c43
       by_cases c52 : a2 = 5
       ·rw [if_pos c52] at H; have c52b0 : (a2 == 5) = true := beq_iff_eq.mpr c52; have c52b1 : (a2 != 5) = false := bne_eq_false_iff_eq.mpr c52; clear c52; replace H := Option.bind_eq_some_iff.mp H; obtain ⟨t301, A530, H⟩ := H
        replace H : (some t301) = some r := H
        have A53 := ak A530; clear A530; obtain rfl := Option.some.inj H
        go_enter Try.func100, Try.ntmps100
        go_wp2_with (first | ((with_reducible refine gate_dst (N := 3) rfl ?_); refine box_event ?hg (N := 3) ?hd (cs := #[.int .i64 a0_0, .int .i64 a0_1, .int .i64 a0_2, .slice A0_3 l0_3.length c0_3, .slice A0_4 l0_4.length c0_4]) (t := 24) ?hr ?_; (case hd => rfl); (case hg => rfl); (case hr => first | (go_simp; done) | (go_simp; rfl)); intro gb291 hg w54 hbox hb; have BK291 := ak (hbox); have GW291 := gw_ hg HB.1.size; have GE291 := gw_ hg HB.1.size; replace HB := ak (below_step HB.1 hb); clear hb hbox hg; obtain ⟨hcz55_0, hcz55_1, hcz55_2, hcz55_3, hcz55_4, hfz55_0, hfz55_1, hfz55_2, hfz55_3, hfz55_4⟩ := bk5 BK291.1) | ((with_reducible refine gate_callee (f := 120) rfl ?_); refine goesL_ (some 12) rfl rfl Try.func120 (by kernel_rfl) rfl #[.agg #[.int .i64 a0_0, .int .i64 a0_1, .int .i64 a0_2, .slice A0_3 l0_3.length c0_3, .slice A0_4 l0_4.length c0_4], .int .i64 a1] rfl (sm_) ?_; (with_reducible refine (taquinref07_Is.calls a0_0 a0_1 a0_2 _ _ l0_3 _ _ l0_4 a1 true _ ?side1 ?side2 ?side3 ?side4 A4.1).mono ?_); (case side1 => exact (Kd.C_below HR0_3.1 HB.1)); (case side2 => exact HC0_3.1); (case side3 => exact (Kd.C_below HR0_4.1 HB.1)); (case side4 => exact HC0_4.1); rintro e w56 ⟨rfl, hb⟩; refine ⟨_, rfl, ?_⟩; replace BK291 := ak (blk_below BK291.1 hb); replace HB := ak (below_step HB.1 hb); (try clear hb); obtain ⟨hcz57_0, hcz57_1, hcz57_2, hcz57_3, hcz57_4, hfz57_0, hfz57_1, hfz57_2, hfz57_3, hfz57_4⟩ := bk5 BK291.1) | ((with_reducible refine gate_callee (f := 121) rfl ?_); refine goesL_ (some 17) rfl rfl Try.func121 (by kernel_rfl) rfl #[.agg #[.int .i64 a0_0, .int .i64 a0_1, .int .i64 a0_2, .slice A0_3 l0_3.length c0_3, .slice A0_4 l0_4.length c0_4], .int .i64 a1] rfl (sm_) ?_; (with_reducible refine (taquinref07_At.calls a0_0 a0_1 a0_2 _ _ l0_3 _ _ l0_4 a1 t293 t294 t295 _ ?side1 ?side2 ?side3 ?side4 A6.1).mono ?_); (case side1 => exact (Kd.C_below HR0_3.1 HB.1)); (case side2 => exact HC0_3.1); (case side3 => exact (Kd.C_below HR0_4.1 HB.1)); (case side4 => exact HC0_4.1); rintro e w58 ⟨rfl, hb⟩; refine ⟨_, rfl, ?_⟩; replace BK291 := ak (blk_below BK291.1 hb); replace HB := ak (below_step HB.1 hb); (try clear hb); obtain ⟨hcz59_0, hcz59_1, hcz59_2, hcz59_3, hcz59_4, hfz59_0, hfz59_1, hfz59_2, hfz59_3, hfz59_4⟩ := bk5 BK291.1) | ((with_reducible refine gate_callee (f := 122) rfl ?_); refine goesL_ (some 69) rfl rfl Try.func122 (by kernel_rfl) rfl #[.agg #[.int .i64 a0_0, .int .i64 a0_1, .int .i64 a0_2, .slice A0_3 l0_3.length c0_3, .slice A0_4 l0_4.length c0_4], .int .i64 t293, .int .i64 t294, .int .i64 (wrap64 (t295 - 1))] rfl (sm_) ?_; (with_reducible refine (taquinref07_Cell.calls a0_0 a0_1 a0_2 _ _ l0_3 _ _ l0_4 t293 t294 (wrap64 (t295 - 1)) t301 _ ?side1 ?side2 ?side3 ?side4 A53.1).mono ?_); (case side1 => exact (Kd.C_below HR0_3.1 HB.1)); (case side2 => exact HC0_3.1); (case side3 => exact (Kd.C_below HR0_4.1 HB.1)); (case side4 => exact HC0_4.1); rintro e w60 ⟨rfl, hb⟩; refine ⟨_, rfl, ?_⟩; replace BK291 := ak (blk_below BK291.1 hb); replace HB := ak (below_step HB.1 hb); (try clear hb)))
        go_ret
        exact ⟨er_, hq1_ HB.1 GE291.1⟩
       ·rw [if_neg c52] at H; have c52b0 : (a2 == 5) = false := beq_eq_false_iff_ne.mpr c52; have c52b1 : (a2 != 5) = true := bne_iff_ne.mpr c52; obtain rfl := Option.some.inj H
        go_enter Try.func100, Try.ntmps100
        go_wp2_with (first | ((with_reducible refine gate_dst (N := 3) rfl ?_); refine box_event ?hg (N := 3) ?hd (cs := #[.int .i64 a0_0, .int .i64 a0_1, .int .i64 a0_2, .slice A0_3 l0_3.length c0_3, .slice A0_4 l0_4.length c0_4]) (t := 24) ?hr ?_; (case hd => rfl); (case hg => rfl); (case hr => first | (go_simp; done) | (go_simp; rfl)); intro gb291 hg w61 hbox hb; have BK291 := ak (hbox); have GW291 := gw_ hg HB.1.size; have GE291 := gw_ hg HB.1.size; replace HB := ak (below_step HB.1 hb); clear hb hbox hg; obtain ⟨hcz62_0, hcz62_1, hcz62_2, hcz62_3, hcz62_4, hfz62_0, hfz62_1, hfz62_2, hfz62_3, hfz62_4⟩ := bk5 BK291.1) | ((with_reducible refine gate_callee (f := 120) rfl ?_); refine goesL_ (some 12) rfl rfl Try.func120 (by kernel_rfl) rfl #[.agg #[.int .i64 a0_0, .int .i64 a0_1, .int .i64 a0_2, .slice A0_3 l0_3.length c0_3, .slice A0_4 l0_4.length c0_4], .int .i64 a1] rfl (sm_) ?_; (with_reducible refine (taquinref07_Is.calls a0_0 a0_1 a0_2 _ _ l0_3 _ _ l0_4 a1 true _ ?side1 ?side2 ?side3 ?side4 A4.1).mono ?_); (case side1 => exact (Kd.C_below HR0_3.1 HB.1)); (case side2 => exact HC0_3.1); (case side3 => exact (Kd.C_below HR0_4.1 HB.1)); (case side4 => exact HC0_4.1); rintro e w63 ⟨rfl, hb⟩; refine ⟨_, rfl, ?_⟩; replace BK291 := ak (blk_below BK291.1 hb); replace HB := ak (below_step HB.1 hb); (try clear hb); obtain ⟨hcz64_0, hcz64_1, hcz64_2, hcz64_3, hcz64_4, hfz64_0, hfz64_1, hfz64_2, hfz64_3, hfz64_4⟩ := bk5 BK291.1) | ((with_reducible refine gate_callee (f := 121) rfl ?_); refine goesL_ (some 17) rfl rfl Try.func121 (by kernel_rfl) rfl #[.agg #[.int .i64 a0_0, .int .i64 a0_1, .int .i64 a0_2, .slice A0_3 l0_3.length c0_3, .slice A0_4 l0_4.length c0_4], .int .i64 a1] rfl (sm_) ?_; (with_reducible refine (taquinref07_At.calls a0_0 a0_1 a0_2 _ _ l0_3 _ _ l0_4 a1 t293 t294 t295 _ ?side1 ?side2 ?side3 ?side4 A6.1).mono ?_); (case side1 => exact (Kd.C_below HR0_3.1 HB.1)); (case side2 => exact HC0_3.1); (case side3 => exact (Kd.C_below HR0_4.1 HB.1)); (case side4 => exact HC0_4.1); rintro e w65 ⟨rfl, hb⟩; refine ⟨_, rfl, ?_⟩; replace BK291 := ak (blk_below BK291.1 hb); replace HB := ak (below_step HB.1 hb); (try clear hb)))
        go_ret
        exact ⟨er_, hq1_ HB.1 GE291.1⟩
 ·replace c5 := Bool.eq_false_iff.mpr c5; subst c5
  have H1 : (some (-1)) = some r := by rw [if_neg (show ¬ (false = true) by decide)] at H; exact H
  clear H; have H := H1; clear H1; obtain rfl := Option.some.inj H
  go_enter Try.func100, Try.ntmps100
  go_wp2_with (first | ((with_reducible refine gate_dst (N := 3) rfl ?_); refine box_event ?hg (N := 3) ?hd (cs := #[.int .i64 a0_0, .int .i64 a0_1, .int .i64 a0_2, .slice A0_3 l0_3.length c0_3, .slice A0_4 l0_4.length c0_4]) (t := 24) ?hr ?_; (case hd => rfl); (case hg => rfl); (case hr => first | (go_simp; done) | (go_simp; rfl)); intro gb291 hg w66 hbox hb; have BK291 := ak (hbox); have GW291 := gw_ hg HB.1.size; have GE291 := gw_ hg HB.1.size; replace HB := ak (below_step HB.1 hb); clear hb hbox hg; obtain ⟨hcz67_0, hcz67_1, hcz67_2, hcz67_3, hcz67_4, hfz67_0, hfz67_1, hfz67_2, hfz67_3, hfz67_4⟩ := bk5 BK291.1) | ((with_reducible refine gate_callee (f := 120) rfl ?_); refine goesL_ (some 12) rfl rfl Try.func120 (by kernel_rfl) rfl #[.agg #[.int .i64 a0_0, .int .i64 a0_1, .int .i64 a0_2, .slice A0_3 l0_3.length c0_3, .slice A0_4 l0_4.length c0_4], .int .i64 a1] rfl (sm_) ?_; (with_reducible refine (taquinref07_Is.calls a0_0 a0_1 a0_2 _ _ l0_3 _ _ l0_4 a1 false _ ?side1 ?side2 ?side3 ?side4 A4.1).mono ?_); (case side1 => exact (Kd.C_below HR0_3.1 HB.1)); (case side2 => exact HC0_3.1); (case side3 => exact (Kd.C_below HR0_4.1 HB.1)); (case side4 => exact HC0_4.1); rintro e w68 ⟨rfl, hb⟩; refine ⟨_, rfl, ?_⟩; replace BK291 := ak (blk_below BK291.1 hb); replace HB := ak (below_step HB.1 hb); (try clear hb)))
  go_ret
  exact ⟨er_, hq1_ HB.1 GE291.1⟩
def taquinref07_Next.j0 : Nat → Int → Int → Int → Bool → Int → Int → Int → List Int → List Int → Option (Int × Bool)
 | 0, _, _, _, _, _, _, _, _, _ => none
 | k + 1, x1, x2, x8, x40, x303000, x303001, x303002, x303003, x303004 => if x40 = true then (some (0, false)) else (if x2 ≥ 4 then (if 0 ≤ x1 then (if x1 < (x303003.length : Int) then (if (rd x303003 x1) = 6 then (if 0 ≤ x8 then (if x8 < (x303003.length : Int) then (if (rd x303003 x8) = 6 then (some (x8, true)) else (some (0, false))) else (none)) else (none)) else (some (0, false))) else (none)) else (none)) else (some (x8, true)))
def taquinref07_Next.f (k : Nat) (a0_0 : Int) (a0_1 : Int) (a0_2 : Int) (l0_3 : List Int) (l0_4 : List Int) (a1 : Int) (a2 : Int) : Option (Int × Bool) := (taquinref07_Beside.f a0_0 a0_1 a0_2 l0_3 l0_4 a1 a2).bind fun t303 => (if t303 < 0 then (some (0, false)) else (if 0 ≤ a1 then (if a1 < (l0_3.length : Int) then (if (rd l0_3 a1) = 0 then (taquinref07_Next.j0 k a1 a2 t303 true a0_0 a0_1 a0_2 l0_3 l0_4) else (if 0 ≤ t303 then (if t303 < (l0_3.length : Int) then (if (rd l0_3 t303) = 0 then (taquinref07_Next.j0 k a1 a2 t303 true a0_0 a0_1 a0_2 l0_3 l0_4) else (if a1 < (l0_4.length : Int) then (if 0 ≤ (IntKind.u64.wrap (a2)) then (taquinref07_Next.j0 k a1 a2 t303 ((Go.bits .and .i64 (shr .i64 (rd l0_4 a1) (IntKind.u64.wrap (a2))) 1) == 0) a0_0 a0_1 a0_2 l0_3 l0_4) else (none)) else (none))) else (none)) else (none))) else (none)) else (none)))
set_option maxHeartbeats 8000000 in
set_option maxRecDepth 100000 in
theorem taquinref07_Next.calls (k : Nat) (a0_0 : Int) (a0_1 : Int) (a0_2 : Int) (A0_3 : Option Addr) (c0_3 : Nat) (l0_3 : List Int) (A0_4 : Option Addr) (c0_4 : Nat) (l0_4 : List Int) (a1 : Int) (a2 : Int) (r1 : Int) (r2 : Bool) (w : World) (hr0_3 : Kd.C (Kd.int .i64) w A0_3 l0_3.length l0_3) (hc0_3 : l0_3.length ≤ c0_3) (hr0_4 : Kd.C (Kd.int .i64) w A0_4 l0_4.length l0_4) (hc0_4 : l0_4.length ≤ c0_4) (h : taquinref07_Next.f k a0_0 a0_1 a0_2 l0_3 l0_4 a1 a2 = some (r1, r2)) :
  Calls Try.prog 88 #[.agg #[.int .i64 a0_0, .int .i64 a0_1, .int .i64 a0_2, .slice A0_3 l0_3.length c0_3, .slice A0_4 l0_4.length c0_4], .int .i64 a1, .int .i64 a2] w fun e w' => e = .returned (.tuple #[.int .i64 r1, .bool r2]) ∧ Below w.heap.size w w' := by
 have hu24 := Try.underlying24; have HR0_3 := ak hr0_3; have HC0_3 := ak hc0_3; clear hr0_3 hc0_3; have HR0_4 := ak hr0_4; have HC0_4 := ak hc0_4; clear hr0_4 hc0_4; have HB := ak (Below.refl w.heap.size w); have H : ((taquinref07_Beside.f a0_0 a0_1 a0_2 l0_3 l0_4 a1 a2).bind fun t303 => (if t303 < 0 then (some (0, false)) else (if 0 ≤ a1 then (if a1 < (l0_3.length : Int) then (if (rd l0_3 a1) = 0 then (taquinref07_Next.j0 k a1 a2 t303 true a0_0 a0_1 a0_2 l0_3 l0_4) else (if 0 ≤ t303 then (if t303 < (l0_3.length : Int) then (if (rd l0_3 t303) = 0 then (taquinref07_Next.j0 k a1 a2 t303 true a0_0 a0_1 a0_2 l0_3 l0_4) else (if a1 < (l0_4.length : Int) then (if 0 ≤ (IntKind.u64.wrap (a2)) then (taquinref07_Next.j0 k a1 a2 t303 ((Go.bits .and .i64 (shr .i64 (rd l0_4 a1) (IntKind.u64.wrap (a2))) 1) == 0) a0_0 a0_1 a0_2 l0_3 l0_4) else (none)) else (none))) else (none)) else (none))) else (none)) else (none)))) = some (r1, r2) := h; clear h; replace H := Option.bind_eq_some_iff.mp H; obtain ⟨t303, A40, H⟩ := H
 replace H : (if t303 < 0 then (some (0, false)) else (if 0 ≤ a1 then (if a1 < (l0_3.length : Int) then (if (rd l0_3 a1) = 0 then (taquinref07_Next.j0 k a1 a2 t303 true a0_0 a0_1 a0_2 l0_3 l0_4) else (if 0 ≤ t303 then (if t303 < (l0_3.length : Int) then (if (rd l0_3 t303) = 0 then (taquinref07_Next.j0 k a1 a2 t303 true a0_0 a0_1 a0_2 l0_3 l0_4) else (if a1 < (l0_4.length : Int) then (if 0 ≤ (IntKind.u64.wrap (a2)) then (taquinref07_Next.j0 k a1 a2 t303 ((Go.bits .and .i64 (shr .i64 (rd l0_4 a1) (IntKind.u64.wrap (a2))) 1) == 0) a0_0 a0_1 a0_2 l0_3 l0_4) else (none)) else (none))) else (none)) else (none))) else (none)) else (none))) = some (r1, r2) := H
 have A4 := ak A40; clear A40
 by_cases c5 : t303 < 0
 ·rw [if_pos c5] at H; have c5b0 : decide (t303 < 0) = true := decide_eq_true c5; clear c5; simp only [Option.some.injEq, Prod.mk.injEq] at H; obtain ⟨rfl, rfl⟩ := H
  go_enter Try.func88, Try.ntmps88
  go_wp2_with (first | ((with_reducible refine gate_dst (N := 3) rfl ?_); refine box_event ?hg (N := 3) ?hd (cs := #[.int .i64 a0_0, .int .i64 a0_1, .int .i64 a0_2, .slice A0_3 l0_3.length c0_3, .slice A0_4 l0_4.length c0_4]) (t := 24) ?hr ?_; (case hd => rfl); (case hg => rfl); (case hr => first | (go_simp; done) | (go_simp; rfl)); intro gb302 hg w6 hbox hb; have BK302 := ak (hbox); have GW302 := gw_ hg HB.1.size; have GE302 := gw_ hg HB.1.size; replace HB := ak (below_step HB.1 hb); clear hb hbox hg; obtain ⟨hcz7_0, hcz7_1, hcz7_2, hcz7_3, hcz7_4, hfz7_0, hfz7_1, hfz7_2, hfz7_3, hfz7_4⟩ := bk5 BK302.1) | ((with_reducible refine gate_callee (f := 100) rfl ?_); refine goesL_ (some 12) rfl rfl Try.func100 (by kernel_rfl) rfl #[.agg #[.int .i64 a0_0, .int .i64 a0_1, .int .i64 a0_2, .slice A0_3 l0_3.length c0_3, .slice A0_4 l0_4.length c0_4], .int .i64 a1, .int .i64 a2] rfl (sm_) ?_; (with_reducible refine (taquinref07_Beside.calls a0_0 a0_1 a0_2 _ _ l0_3 _ _ l0_4 a1 a2 t303 _ ?side1 ?side2 ?side3 ?side4 A4.1).mono ?_); (case side1 => exact (Kd.C_below HR0_3.1 HB.1)); (case side2 => exact HC0_3.1); (case side3 => exact (Kd.C_below HR0_4.1 HB.1)); (case side4 => exact HC0_4.1); rintro e w8 ⟨rfl, hb⟩; refine ⟨_, rfl, ?_⟩; replace BK302 := ak (blk_below BK302.1 hb); replace HB := ak (below_step HB.1 hb); (try clear hb)))
  go_ret2
  exact ⟨er_, hq1_ HB.1 GE302.1⟩
 ·rw [if_neg c5] at H; have c5b0 : decide (t303 < 0) = false := decide_eq_false c5; clear c5; have HC9 := ak H; clear H
  go_enter Try.func88, Try.ntmps88
  go_upto_region 4 with (first | ((with_reducible refine gate_dst (N := 3) rfl ?_); refine box_event ?hg (N := 3) ?hd (cs := #[.int .i64 a0_0, .int .i64 a0_1, .int .i64 a0_2, .slice A0_3 l0_3.length c0_3, .slice A0_4 l0_4.length c0_4]) (t := 24) ?hr ?_; (case hd => rfl); (case hg => rfl); (case hr => first | (go_simp; done) | (go_simp; rfl)); intro gb302 hg w10 hbox hb; have BK302 := ak (hbox); have GW302 := gw_ hg HB.1.size; have GE302 := gw_ hg HB.1.size; replace HB := ak (below_step HB.1 hb); clear hb hbox hg; obtain ⟨hcz11_0, hcz11_1, hcz11_2, hcz11_3, hcz11_4, hfz11_0, hfz11_1, hfz11_2, hfz11_3, hfz11_4⟩ := bk5 BK302.1) | ((with_reducible refine gate_callee (f := 100) rfl ?_); refine goesL_ (some 12) rfl rfl Try.func100 (by kernel_rfl) rfl #[.agg #[.int .i64 a0_0, .int .i64 a0_1, .int .i64 a0_2, .slice A0_3 l0_3.length c0_3, .slice A0_4 l0_4.length c0_4], .int .i64 a1, .int .i64 a2] rfl (sm_) ?_; (with_reducible refine (taquinref07_Beside.calls a0_0 a0_1 a0_2 _ _ l0_3 _ _ l0_4 a1 a2 t303 _ ?side1 ?side2 ?side3 ?side4 A4.1).mono ?_); (case side1 => exact (Kd.C_below HR0_3.1 HB.1)); (case side2 => exact HC0_3.1); (case side3 => exact (Kd.C_below HR0_4.1 HB.1)); (case side4 => exact HC0_4.1); rintro e w12 ⟨rfl, hb⟩; refine ⟨_, rfl, ?_⟩; replace BK302 := ak (blk_below BK302.1 hb); replace HB := ak (below_step HB.1 hb); (try clear hb)))
  (try simp only [Act.put, List.setIfInBounds_toArray, List.set_cons_zero, List.set_cons_succ])
  go_cut [40] (fun v40 wc => ∃ (kq : Nat) (x40_8 : Bool), v40 = .bool x40_8 ∧ Aside0 (taquinref07_Next.j0 kq a1 a2 t303 x40_8 a0_0 a0_1 a0_2 l0_3 l0_4 = some (r1, r2)) ∧ Aside0 (kq ≤ k) ∧ Aside0 (wc.heap[gb302]? = some (.cells #[.int .i64 a0_0, .int .i64 a0_1, .int .i64 a0_2, (.slice A0_3 l0_3.length c0_3), (.slice A0_4 l0_4.length c0_4)] 24 (0, 0))) ∧ Aside0 (Below w.heap.size w wc))
  case first =>
   have H := HC9.1; clear HC9
   by_cases c13 : 0 ≤ a1
   ·rw [if_pos c13] at H; have c13b0 : decide (0 ≤ a1) = true := decide_eq_true c13; clear c13; (first | rw [c13b0] | (simp only [i64_w, i32_w]; rw [c13b0]) | skip)
    by_cases c14 : a1 < (l0_3.length : Int)
    ·rw [if_pos c14] at H; have c14b0 : decide (a1 < (l0_3.length : Int)) = true := decide_eq_true c14; clear c14
     by_cases c15 : (rd l0_3 a1) = 0
     ·rw [if_pos c15] at H; have c15b0 : ((rd l0_3 a1) == 0) = true := beq_iff_eq.mpr c15; have c15b1 : ((rd l0_3 a1) != 0) = false := bne_eq_false_iff_eq.mpr c15; clear c15; have H' := ak H; clear H; have hcz16_0 : w12.cell? ⟨gb302, 0, none⟩ = some (.int .i64 a0_0) := (blk_cell BK302.1 0).trans rfl; have hcz16_1 : w12.cell? ⟨gb302, 1, none⟩ = some (.int .i64 a0_1) := (blk_cell BK302.1 1).trans rfl; have hcz16_2 : w12.cell? ⟨gb302, 2, none⟩ = some (.int .i64 a0_2) := (blk_cell BK302.1 2).trans rfl; have hcz16_3 : w12.cell? ⟨gb302, 3, none⟩ = some (.slice A0_3 l0_3.length c0_3) := (blk_cell BK302.1 3).trans rfl; have hcz16_4 : w12.cell? ⟨gb302, 4, none⟩ = some (.slice A0_4 l0_4.length c0_4) := (blk_cell BK302.1 4).trans rfl; have hfz16_0 := blk_frozen BK302.1 0; have hfz16_1 := blk_frozen BK302.1 1; have hfz16_2 := blk_frozen BK302.1 2; have hfz16_3 := blk_frozen BK302.1 3; have hfz16_4 := blk_frozen BK302.1 4; have p304 : 0 ≤ (a1 : Int) := of_decide_eq_true (by assumption); have q304 : a1 < (l0_3.length : Int) := of_decide_eq_true (by assumption); obtain ⟨ad304, e304, hx304_0⟩ := Kd.at_int HR0_3.1 a1 p304 q304
      cases e304
      replace hx304_0 := (HB.1.cell (World.block_lt_of_cell? w _ hx304_0)).trans hx304_0; replace p304 := eq_true p304; replace q304 := eq_true q304
      go_wp2
      go_meet
      case rel => exact ⟨_, (true), (rs_), H', ⟨by first | omega | exact Nat.le_refl _⟩, ⟨by (with_reducible repeat (first | refine blk_drewN ?_ _ | refine blk_drew ?_ | refine blk_alloc ?_ _)); exact BK302.1⟩, ⟨hq1_ HB.1 GE302.1⟩⟩
     ·rw [if_neg c15] at H; have c15b0 : ((rd l0_3 a1) == 0) = false := beq_eq_false_iff_ne.mpr c15; have c15b1 : ((rd l0_3 a1) != 0) = true := bne_iff_ne.mpr c15
      by_cases c17 : 0 ≤ t303
      ·rw [if_pos c17] at H; have c17b0 : decide (0 ≤ t303) = true := decide_eq_true c17; clear c17
       by_cases c18 : t303 < (l0_3.length : Int)
       ·rw [if_pos c18] at H; have c18b0 : decide (t303 < (l0_3.length : Int)) = true := decide_eq_true c18; clear c18
        by_cases c19 : (rd l0_3 t303) = 0
        ·rw [if_pos c19] at H; have c19b0 : ((rd l0_3 t303) == 0) = true := beq_iff_eq.mpr c19; have c19b1 : ((rd l0_3 t303) != 0) = false := bne_eq_false_iff_eq.mpr c19; clear c19; have H' := ak H; clear H; have hcz20_0 : w12.cell? ⟨gb302, 0, none⟩ = some (.int .i64 a0_0) := (blk_cell BK302.1 0).trans rfl; have hcz20_1 : w12.cell? ⟨gb302, 1, none⟩ = some (.int .i64 a0_1) := (blk_cell BK302.1 1).trans rfl; have hcz20_2 : w12.cell? ⟨gb302, 2, none⟩ = some (.int .i64 a0_2) := (blk_cell BK302.1 2).trans rfl; have hcz20_3 : w12.cell? ⟨gb302, 3, none⟩ = some (.slice A0_3 l0_3.length c0_3) := (blk_cell BK302.1 3).trans rfl; have hcz20_4 : w12.cell? ⟨gb302, 4, none⟩ = some (.slice A0_4 l0_4.length c0_4) := (blk_cell BK302.1 4).trans rfl; have hfz20_0 := blk_frozen BK302.1 0; have hfz20_1 := blk_frozen BK302.1 1; have hfz20_2 := blk_frozen BK302.1 2; have hfz20_3 := blk_frozen BK302.1 3; have hfz20_4 := blk_frozen BK302.1 4; have p304 : 0 ≤ (a1 : Int) := of_decide_eq_true (by assumption); have q304 : a1 < (l0_3.length : Int) := of_decide_eq_true (by assumption); obtain ⟨ad304, e304, hx304_0⟩ := Kd.at_int HR0_3.1 a1 p304 q304
         cases e304
         replace hx304_0 := (HB.1.cell (World.block_lt_of_cell? w _ hx304_0)).trans hx304_0; replace p304 := eq_true p304; replace q304 := eq_true q304; have p305 : 0 ≤ (t303 : Int) := of_decide_eq_true (by assumption); have q305 : t303 < (l0_3.length : Int) := of_decide_eq_true (by assumption); obtain ⟨ad305, e305, hx305_0⟩ := Kd.at_int HR0_3.1 t303 p305 q305; obtain rfl : ad304 = ad305 := (by injection e305); replace hx305_0 := (HB.1.cell (World.block_lt_of_cell? w _ hx305_0)).trans hx305_0; replace p305 := eq_true p305; replace q305 := eq_true q305
         go_wp2
         go_meet
         case rel => exact ⟨_, (true), (rs_), H', ⟨by first | omega | exact Nat.le_refl _⟩, ⟨by (with_reducible repeat (first | refine blk_drewN ?_ _ | refine blk_drew ?_ | refine blk_alloc ?_ _)); exact BK302.1⟩, ⟨hq1_ HB.1 GE302.1⟩⟩
        ·rw [if_neg c19] at H; have c19b0 : ((rd l0_3 t303) == 0) = false := beq_eq_false_iff_ne.mpr c19; have c19b1 : ((rd l0_3 t303) != 0) = true := bne_iff_ne.mpr c19
         by_cases c21 : a1 < (l0_4.length : Int)
         ·rw [if_pos c21] at H; have c21b0 : decide (a1 < (l0_4.length : Int)) = true := decide_eq_true c21; clear c21; obtain ⟨ji22, hji22⟩ : ∃ j_ : Int, (IntKind.u64.wrap (a2)) = j_ := ⟨_, rfl⟩
          replace H : (if 0 ≤ (ji22) then (taquinref07_Next.j0 k a1 a2 t303 ((Go.bits .and .i64 (shr .i64 (rd l0_4 a1) (ji22)) 1) == 0) a0_0 a0_1 a0_2 l0_3 l0_4) else (none)) = some (r1, r2) := by first | (rw [hji22] at H; exact H) | (simp only [hji22] at H ⊢; exact H)
          by_cases c23 : 0 ≤ (ji22)
          ·rw [if_pos c23] at H; have c23b0 := eq_true c23; have c23b1 : decide (0 ≤ (ji22)) = true := decide_eq_true c23; clear c23; obtain ⟨ji24, hji24⟩ : ∃ j_ : Int, (shr .i64 (rd l0_4 a1) (ji22)) = j_ := ⟨_, rfl⟩
           replace H : (taquinref07_Next.j0 k a1 a2 t303 ((Go.bits .and .i64 (ji24) 1) == 0) a0_0 a0_1 a0_2 l0_3 l0_4) = some (r1, r2) := by first | (rw [hji24] at H; exact H) | (simp only [hji24] at H ⊢; exact H)
           have hji24_ : ((rd l0_4 a1) / 2 ^ min (ji22).toNat 64) = ji24 := hji24; have hji24z : (ji22) ≤ 64 → ((rd l0_4 a1) / 2 ^ (ji22).toNat) = ji24 := shr_small hji24; have H' := ak H; clear H; have hcz25_0 : w12.cell? ⟨gb302, 0, none⟩ = some (.int .i64 a0_0) := (blk_cell BK302.1 0).trans rfl; have hcz25_1 : w12.cell? ⟨gb302, 1, none⟩ = some (.int .i64 a0_1) := (blk_cell BK302.1 1).trans rfl; have hcz25_2 : w12.cell? ⟨gb302, 2, none⟩ = some (.int .i64 a0_2) := (blk_cell BK302.1 2).trans rfl; have hcz25_3 : w12.cell? ⟨gb302, 3, none⟩ = some (.slice A0_3 l0_3.length c0_3) := (blk_cell BK302.1 3).trans rfl; have hcz25_4 : w12.cell? ⟨gb302, 4, none⟩ = some (.slice A0_4 l0_4.length c0_4) := (blk_cell BK302.1 4).trans rfl; have hfz25_0 := blk_frozen BK302.1 0; have hfz25_1 := blk_frozen BK302.1 1; have hfz25_2 := blk_frozen BK302.1 2; have hfz25_3 := blk_frozen BK302.1 3; have hfz25_4 := blk_frozen BK302.1 4; have p304 : 0 ≤ (a1 : Int) := of_decide_eq_true (by assumption); have q304 : a1 < (l0_3.length : Int) := of_decide_eq_true (by assumption); obtain ⟨ad304, e304, hx304_0⟩ := Kd.at_int HR0_3.1 a1 p304 q304
           cases e304
           replace hx304_0 := (HB.1.cell (World.block_lt_of_cell? w _ hx304_0)).trans hx304_0; replace p304 := eq_true p304; replace q304 := eq_true q304; have p305 : 0 ≤ (t303 : Int) := of_decide_eq_true (by assumption); have q305 : t303 < (l0_3.length : Int) := of_decide_eq_true (by assumption); obtain ⟨ad305, e305, hx305_0⟩ := Kd.at_int HR0_3.1 t303 p305 q305; obtain rfl : ad304 = ad305 := (by injection e305); replace hx305_0 := (HB.1.cell (World.block_lt_of_cell? w _ hx305_0)).trans hx305_0; replace p305 := eq_true p305; replace q305 := eq_true q305; have p306 : 0 ≤ (a1 : Int) := of_decide_eq_true (by assumption); have q306 : a1 < (l0_4.length : Int) := of_decide_eq_true (by assumption); obtain ⟨ad306, e306, hx306_0⟩ := Kd.at_int HR0_4.1 a1 p306 q306
           cases e306
           replace hx306_0 := (HB.1.cell (World.block_lt_of_cell? w _ hx306_0)).trans hx306_0; replace p306 := eq_true p306; replace q306 := eq_true q306
           go_wp2
           go_meet
           case rel => exact ⟨_, (((Go.bits .and .i64 (ji24) 1) == 0)), (by first | rfl | (simp; done) | (simp only [← hji24] <;> (first | rfl | simp)) | (simp [*]; done)), H', ⟨by first | omega | exact Nat.le_refl _⟩, ⟨by (with_reducible repeat (first | refine blk_drewN ?_ _ | refine blk_drew ?_ | refine blk_alloc ?_ _)); exact BK302.1⟩, ⟨hq1_ HB.1 GE302.1⟩⟩
          ·rw [if_neg c23] at H; exact absurd H (by simp)
         ·rw [if_neg c21] at H; exact absurd H (by simp)
       ·rw [if_neg c18] at H; exact absurd H (by simp)
      ·rw [if_neg c17] at H; exact absurd H (by simp)
    ·rw [if_neg c14] at H; exact absurd H (by simp)
   ·rw [if_neg c13] at H; exact absurd H (by simp)
  case rest =>
   clear HC9; (try clear c1); (try clear c2); (try clear p2); (try clear p3); (try clear q3); (try clear hx3); (try clear c5); (try clear c5b0); (try clear c8); (try clear c10); (try clear c13); (try clear c13b0); (try clear c14); (try clear c14b0); (try clear c15); (try clear c15b0); (try clear c15b1); (try clear c17); (try clear c17b0); (try clear c18); (try clear c18b0); (try clear c19); (try clear c19b0); (try clear c19b1); (try clear c21); (try clear c21b0); (try clear c23); (try clear c23b0); (try clear c23b1); (try clear hcz11_0); (try clear hcz11_1); (try clear hcz11_2); (try clear hcz11_3); (try clear hcz11_4); (try clear hcz16_0); (try clear hcz16_1); (try clear hcz16_2); (try clear hcz16_3); (try clear hcz16_4); (try clear hcz20_0); (try clear hcz20_1); (try clear hcz20_2); (try clear hcz20_3); (try clear hcz20_4); (try clear hcz25_0); (try clear hcz25_1); (try clear hcz25_2); (try clear hcz25_3); (try clear hcz25_4); (try clear hcz7_0); (try clear hcz7_1); (try clear hcz7_2); (try clear hcz7_3); (try clear hcz7_4); (try clear hfz11_0); (try clear hfz11_1); (try clear hfz11_2); (try clear hfz11_3); (try clear hfz11_4); (try clear hfz16_0); (try clear hfz16_1); (try clear hfz16_2); (try clear hfz16_3); (try clear hfz16_4); (try clear hfz20_0); (try clear hfz20_1); (try clear hfz20_2); (try clear hfz20_3); (try clear hfz20_4); (try clear hfz25_0); (try clear hfz25_1); (try clear hfz25_2); (try clear hfz25_3); (try clear hfz25_4); (try clear hfz7_0); (try clear hfz7_1); (try clear hfz7_2); (try clear hfz7_3); (try clear hfz7_4); (try clear hx304_0); (try clear hx305_0); (try clear hx306_0); (try clear p304); (try clear p305); (try clear p306); (try clear q304); (try clear q305); (try clear q306); obtain ⟨kq, x40_8, rfl, HA, HJ8, BK302, HB⟩ := hcut
   cases kq with
   | zero => exact absurd HA.1 (by simp [taquinref07_Next.j0])
   | succ kj8 =>
    have H := HA.1; clear HA; simp only [taquinref07_Next.j0] at H
    by_cases c26 : x40_8 = true
    ·subst c26
     have H1 : (some (0, false)) = some (r1, r2) := by rw [if_pos rfl] at H; exact H
     clear H; have H := H1; clear H1; simp only [Option.some.injEq, Prod.mk.injEq] at H; obtain ⟨rfl, rfl⟩ := H
     go_wp2
     go_ret2
     exact ⟨er_, hq1_ HB.1 GE302.1⟩
    ·replace c26 := Bool.eq_false_iff.mpr c26; subst c26
     have H1 : (if a2 ≥ 4 then (if 0 ≤ a1 then (if a1 < (l0_3.length : Int) then (if (rd l0_3 a1) = 6 then (if 0 ≤ t303 then (if t303 < (l0_3.length : Int) then (if (rd l0_3 t303) = 6 then (some (t303, true)) else (some (0, false))) else (none)) else (none)) else (some (0, false))) else (none)) else (none)) else (some (t303, true))) = some (r1, r2) := by rw [if_neg (show ¬ (false = true) by decide)] at H; exact H
     clear H; have H := H1; clear H1
     by_cases c27 : a2 ≥ 4
     ·rw [if_pos c27] at H; have c27b0 : decide (4 ≤ a2) = true := decide_eq_true c27; clear c27
      by_cases c28 : 0 ≤ a1
      ·rw [if_pos c28] at H; have c28b0 : decide (0 ≤ a1) = true := decide_eq_true c28; clear c28
       by_cases c29 : a1 < (l0_3.length : Int)
       ·rw [if_pos c29] at H; have c29b0 : decide (a1 < (l0_3.length : Int)) = true := decide_eq_true c29; clear c29
        by_cases c30 : (rd l0_3 a1) = 6
        ·rw [if_pos c30] at H; have c30b0 : ((rd l0_3 a1) == 6) = true := beq_iff_eq.mpr c30; have c30b1 : ((rd l0_3 a1) != 6) = false := bne_eq_false_iff_eq.mpr c30; clear c30
         by_cases c31 : 0 ≤ t303
         ·rw [if_pos c31] at H; have c31b0 : decide (0 ≤ t303) = true := decide_eq_true c31; clear c31
          by_cases c32 : t303 < (l0_3.length : Int)
          ·rw [if_pos c32] at H; have c32b0 : decide (t303 < (l0_3.length : Int)) = true := decide_eq_true c32; clear c32
           by_cases c33 : (rd l0_3 t303) = 6
           ·rw [if_pos c33] at H; have c33b0 : ((rd l0_3 t303) == 6) = true := beq_iff_eq.mpr c33; have c33b1 : ((rd l0_3 t303) != 6) = false := bne_eq_false_iff_eq.mpr c33; clear c33; simp only [Option.some.injEq, Prod.mk.injEq] at H; obtain ⟨rfl, rfl⟩ := H; have hcz34_0 : wc.cell? ⟨gb302, 0, none⟩ = some (.int .i64 a0_0) := (blk_cell BK302.1 0).trans rfl; have hcz34_1 : wc.cell? ⟨gb302, 1, none⟩ = some (.int .i64 a0_1) := (blk_cell BK302.1 1).trans rfl; have hcz34_2 : wc.cell? ⟨gb302, 2, none⟩ = some (.int .i64 a0_2) := (blk_cell BK302.1 2).trans rfl; have hcz34_3 : wc.cell? ⟨gb302, 3, none⟩ = some (.slice A0_3 l0_3.length c0_3) := (blk_cell BK302.1 3).trans rfl; have hcz34_4 : wc.cell? ⟨gb302, 4, none⟩ = some (.slice A0_4 l0_4.length c0_4) := (blk_cell BK302.1 4).trans rfl; have hfz34_0 := blk_frozen BK302.1 0; have hfz34_1 := blk_frozen BK302.1 1; have hfz34_2 := blk_frozen BK302.1 2; have hfz34_3 := blk_frozen BK302.1 3; have hfz34_4 := blk_frozen BK302.1 4; have p307 : 0 ≤ (a1 : Int) := of_decide_eq_true (by assumption); have q307 : a1 < (l0_3.length : Int) := of_decide_eq_true (by assumption); obtain ⟨ad307, e307, hx307_0⟩ := Kd.at_int HR0_3.1 a1 p307 q307
            cases e307
            replace hx307_0 := (HB.1.cell (World.block_lt_of_cell? w _ hx307_0)).trans hx307_0; replace p307 := eq_true p307; replace q307 := eq_true q307; have p308 : 0 ≤ (t303 : Int) := of_decide_eq_true (by assumption); have q308 : t303 < (l0_3.length : Int) := of_decide_eq_true (by assumption); obtain ⟨ad308, e308, hx308_0⟩ := Kd.at_int HR0_3.1 t303 p308 q308; obtain rfl : ad307 = ad308 := (by injection e308); replace hx308_0 := (HB.1.cell (World.block_lt_of_cell? w _ hx308_0)).trans hx308_0; replace p308 := eq_true p308; replace q308 := eq_true q308
            go_wp2
            go_ret2
            exact ⟨er_, hq1_ HB.1 GE302.1⟩
           ·rw [if_neg c33] at H; have c33b0 : ((rd l0_3 t303) == 6) = false := beq_eq_false_iff_ne.mpr c33; have c33b1 : ((rd l0_3 t303) != 6) = true := bne_iff_ne.mpr c33; simp only [Option.some.injEq, Prod.mk.injEq] at H; obtain ⟨rfl, rfl⟩ := H; have hcz35_0 : wc.cell? ⟨gb302, 0, none⟩ = some (.int .i64 a0_0) := (blk_cell BK302.1 0).trans rfl; have hcz35_1 : wc.cell? ⟨gb302, 1, none⟩ = some (.int .i64 a0_1) := (blk_cell BK302.1 1).trans rfl; have hcz35_2 : wc.cell? ⟨gb302, 2, none⟩ = some (.int .i64 a0_2) := (blk_cell BK302.1 2).trans rfl; have hcz35_3 : wc.cell? ⟨gb302, 3, none⟩ = some (.slice A0_3 l0_3.length c0_3) := (blk_cell BK302.1 3).trans rfl; have hcz35_4 : wc.cell? ⟨gb302, 4, none⟩ = some (.slice A0_4 l0_4.length c0_4) := (blk_cell BK302.1 4).trans rfl; have hfz35_0 := blk_frozen BK302.1 0; have hfz35_1 := blk_frozen BK302.1 1; have hfz35_2 := blk_frozen BK302.1 2; have hfz35_3 := blk_frozen BK302.1 3; have hfz35_4 := blk_frozen BK302.1 4; have p307 : 0 ≤ (a1 : Int) := of_decide_eq_true (by assumption); have q307 : a1 < (l0_3.length : Int) := of_decide_eq_true (by assumption); obtain ⟨ad307, e307, hx307_0⟩ := Kd.at_int HR0_3.1 a1 p307 q307
            cases e307
            replace hx307_0 := (HB.1.cell (World.block_lt_of_cell? w _ hx307_0)).trans hx307_0; replace p307 := eq_true p307; replace q307 := eq_true q307; have p308 : 0 ≤ (t303 : Int) := of_decide_eq_true (by assumption); have q308 : t303 < (l0_3.length : Int) := of_decide_eq_true (by assumption); obtain ⟨ad308, e308, hx308_0⟩ := Kd.at_int HR0_3.1 t303 p308 q308; obtain rfl : ad307 = ad308 := (by injection e308); replace hx308_0 := (HB.1.cell (World.block_lt_of_cell? w _ hx308_0)).trans hx308_0; replace p308 := eq_true p308; replace q308 := eq_true q308
            go_wp2
            go_ret2
            exact ⟨er_, hq1_ HB.1 GE302.1⟩
          ·rw [if_neg c32] at H; exact absurd H (by simp)
         ·rw [if_neg c31] at H; exact absurd H (by simp)
        ·rw [if_neg c30] at H; have c30b0 : ((rd l0_3 a1) == 6) = false := beq_eq_false_iff_ne.mpr c30; have c30b1 : ((rd l0_3 a1) != 6) = true := bne_iff_ne.mpr c30; simp only [Option.some.injEq, Prod.mk.injEq] at H; obtain ⟨rfl, rfl⟩ := H; have hcz36_0 : wc.cell? ⟨gb302, 0, none⟩ = some (.int .i64 a0_0) := (blk_cell BK302.1 0).trans rfl; have hcz36_1 : wc.cell? ⟨gb302, 1, none⟩ = some (.int .i64 a0_1) := (blk_cell BK302.1 1).trans rfl; have hcz36_2 : wc.cell? ⟨gb302, 2, none⟩ = some (.int .i64 a0_2) := (blk_cell BK302.1 2).trans rfl; have hcz36_3 : wc.cell? ⟨gb302, 3, none⟩ = some (.slice A0_3 l0_3.length c0_3) := (blk_cell BK302.1 3).trans rfl; have hcz36_4 : wc.cell? ⟨gb302, 4, none⟩ = some (.slice A0_4 l0_4.length c0_4) := (blk_cell BK302.1 4).trans rfl; have hfz36_0 := blk_frozen BK302.1 0; have hfz36_1 := blk_frozen BK302.1 1; have hfz36_2 := blk_frozen BK302.1 2; have hfz36_3 := blk_frozen BK302.1 3; have hfz36_4 := blk_frozen BK302.1 4; have p307 : 0 ≤ (a1 : Int) := of_decide_eq_true (by assumption); have q307 : a1 < (l0_3.length : Int) := of_decide_eq_true (by assumption); obtain ⟨ad307, e307, hx307_0⟩ := Kd.at_int HR0_3.1 a1 p307 q307
         cases e307
         replace hx307_0 := (HB.1.cell (World.block_lt_of_cell? w _ hx307_0)).trans hx307_0; replace p307 := eq_true p307; replace q307 := eq_true q307
         go_wp2
         go_ret2
         exact ⟨er_, hq1_ HB.1 GE302.1⟩
       ·rw [if_neg c29] at H; exact absurd H (by simp)
      ·rw [if_neg c28] at H; exact absurd H (by simp)
     ·rw [if_neg c27] at H; have c27b0 : decide (4 ≤ a2) = false := decide_eq_false c27; clear c27; simp only [Option.some.injEq, Prod.mk.injEq] at H; obtain ⟨rfl, rfl⟩ := H
      go_wp2
      go_ret2
      exact ⟨er_, hq1_ HB.1 GE302.1⟩
def taquinref25_Gets.l0 : Nat → Int → Int → Int → Int → Int → Int → List Int → List Int → Option (Bool)
 | 0, _, _, _, _, _, _, _, _ => none
 | k + 1, x1, x2, x7, x310000, x310001, x310002, x310003, x310004 => if x7 < 6 then ((taquinref07_Next.f k x310000 x310001 x310002 x310003 x310004 x1 x7).bind fun bt310 => (if bt310.2 = true then (if bt310.1 = x2 then (some true) else (taquinref25_Gets.l0 k x1 x2 (wrap64 (x7 + 1)) x310000 x310001 x310002 x310003 x310004)) else (taquinref25_Gets.l0 k x1 x2 (wrap64 (x7 + 1)) x310000 x310001 x310002 x310003 x310004))) else (some false)
def taquinref25_Gets.f (k : Nat) (a0_0 : Int) (a0_1 : Int) (a0_2 : Int) (l0_3 : List Int) (l0_4 : List Int) (a1 : Int) (a2 : Int) : Option (Bool) := taquinref25_Gets.l0 k a1 a2 0 a0_0 a0_1 a0_2 l0_3 l0_4
set_option maxHeartbeats 8000000 in
set_option maxRecDepth 100000 in
theorem taquinref25_Gets.calls (k : Nat) (a0_0 : Int) (a0_1 : Int) (a0_2 : Int) (A0_3 : Option Addr) (c0_3 : Nat) (l0_3 : List Int) (A0_4 : Option Addr) (c0_4 : Nat) (l0_4 : List Int) (a1 : Int) (a2 : Int) (r : Bool) (w : World) (hr0_3 : Kd.C (Kd.int .i64) w A0_3 l0_3.length l0_3) (hc0_3 : l0_3.length ≤ c0_3) (hr0_4 : Kd.C (Kd.int .i64) w A0_4 l0_4.length l0_4) (hc0_4 : l0_4.length ≤ c0_4) (h : taquinref25_Gets.f k a0_0 a0_1 a0_2 l0_3 l0_4 a1 a2 = some r) :
  Calls Try.prog 67 #[.agg #[.int .i64 a0_0, .int .i64 a0_1, .int .i64 a0_2, .slice A0_3 l0_3.length c0_3, .slice A0_4 l0_4.length c0_4], .int .i64 a1, .int .i64 a2] w fun e w' => e = .returned (.bool r) ∧ Below w.heap.size w w' := by
 have hu24 := Try.underlying24; have HR0_3 := ak hr0_3; have HC0_3 := ak hc0_3; clear hr0_3 hc0_3; have HR0_4 := ak hr0_4; have HC0_4 := ak hc0_4; clear hr0_4 hc0_4; have HB := ak (Below.refl w.heap.size w); have H : (taquinref25_Gets.l0 k a1 a2 0 a0_0 a0_1 a0_2 l0_3 l0_4) = some r := h; clear h; have H' := ak H; clear H
 go_enter Try.func67, Try.ntmps67
 go_wp2_with (first | ((with_reducible refine gate_dst (N := 3) rfl ?_); refine box_event ?hg (N := 3) ?hd (cs := #[.int .i64 a0_0, .int .i64 a0_1, .int .i64 a0_2, .slice A0_3 l0_3.length c0_3, .slice A0_4 l0_4.length c0_4]) (t := 24) ?hr ?_; (case hd => rfl); (case hg => rfl); (case hr => first | (go_simp; done) | (go_simp; rfl)); intro gb309 hg w4 hbox hb; have BK309 := ak (hbox); have GW309 := gw_ hg HB.1.size; have GE309 := gw_ hg HB.1.size; replace HB := ak (below_step HB.1 hb); clear hb hbox hg))
 go_loopg [7] k (fun kq v7 w' => ∃ (x7_1 : Int), v7 = .int .i64 x7_1 ∧ Aside0 (taquinref25_Gets.l0 kq a1 a2 x7_1 a0_0 a0_1 a0_2 l0_3 l0_4 = some r) ∧ Aside0 (kq ≤ k) ∧ Aside0 (w'.heap[gb309]? = some (.cells #[.int .i64 a0_0, .int .i64 a0_1, .int .i64 a0_2, (.slice A0_3 l0_3.length c0_3), (.slice A0_4 l0_4.length c0_4)] 24 (0, 0))) ∧ Aside0 (Below w.heap.size w w'))
 case atStart => exact ⟨(0), (rs_), H', ⟨Nat.le_refl _⟩, ⟨by (with_reducible repeat (first | refine blk_drewN ?_ _ | refine blk_drew ?_ | refine blk_alloc ?_ _)); exact BK309.1⟩, ⟨hq1_ HB.1 GE309.1⟩⟩
 case round =>
  clear H'; (try clear p2); obtain ⟨x7_1, rfl, HA, HK1, BK309, HB⟩ := hrel
  cases gk with
  | zero => exact absurd HA.1 (by simp [taquinref25_Gets.l0])
  | succ k1 =>
   have H := HA.1; clear HA; simp only [taquinref25_Gets.l0] at H
   by_cases c5 : x7_1 < 6
   ·rw [if_pos c5] at H; have c5b0 : decide (x7_1 < 6) = true := decide_eq_true c5; clear c5; replace H := Option.bind_eq_some_iff.mp H; obtain ⟨⟨t310, t311⟩, A60, H⟩ := H
    replace H : (if t311 = true then (if t310 = a2 then (some true) else (taquinref25_Gets.l0 k1 a1 a2 (wrap64 (x7_1 + 1)) a0_0 a0_1 a0_2 l0_3 l0_4)) else (taquinref25_Gets.l0 k1 a1 a2 (wrap64 (x7_1 + 1)) a0_0 a0_1 a0_2 l0_3 l0_4)) = some r := H
    have A6 := ak A60; clear A60
    by_cases c7 : t311 = true
    ·subst c7
     have H1 : (if t310 = a2 then (some true) else (taquinref25_Gets.l0 k1 a1 a2 (wrap64 (x7_1 + 1)) a0_0 a0_1 a0_2 l0_3 l0_4)) = some r := by rw [if_pos rfl] at H; exact H
     clear H; have H := H1; clear H1
     by_cases c8 : t310 = a2
     ·rw [if_pos c8] at H; have c8b0 : (t310 == a2) = true := beq_iff_eq.mpr c8; have c8b1 : (t310 != a2) = false := bne_eq_false_iff_eq.mpr c8; clear c8; obtain rfl := Option.some.inj H; have hcz9_0 : wr.cell? ⟨gb309, 0, none⟩ = some (.int .i64 a0_0) := (blk_cell BK309.1 0).trans rfl; have hcz9_1 : wr.cell? ⟨gb309, 1, none⟩ = some (.int .i64 a0_1) := (blk_cell BK309.1 1).trans rfl; have hcz9_2 : wr.cell? ⟨gb309, 2, none⟩ = some (.int .i64 a0_2) := (blk_cell BK309.1 2).trans rfl; have hcz9_3 : wr.cell? ⟨gb309, 3, none⟩ = some (.slice A0_3 l0_3.length c0_3) := (blk_cell BK309.1 3).trans rfl; have hcz9_4 : wr.cell? ⟨gb309, 4, none⟩ = some (.slice A0_4 l0_4.length c0_4) := (blk_cell BK309.1 4).trans rfl; have hfz9_0 := blk_frozen BK309.1 0; have hfz9_1 := blk_frozen BK309.1 1; have hfz9_2 := blk_frozen BK309.1 2; have hfz9_3 := blk_frozen BK309.1 3; have hfz9_4 := blk_frozen BK309.1 4
      go_wp2_with (first | ((with_reducible refine gate_callee (f := 88) rfl ?_); refine goesL_ (some 18) rfl rfl Try.func88 (by kernel_rfl) rfl #[.agg #[.int .i64 a0_0, .int .i64 a0_1, .int .i64 a0_2, .slice A0_3 l0_3.length c0_3, .slice A0_4 l0_4.length c0_4], .int .i64 a1, .int .i64 x7_1] rfl (sm_) ?_; (with_reducible refine (taquinref07_Next.calls k1 a0_0 a0_1 a0_2 _ _ l0_3 _ _ l0_4 a1 x7_1 t310 true _ ?side1 ?side2 ?side3 ?side4 A6.1).mono ?_); (case side1 => exact (Kd.C_below HR0_3.1 HB.1)); (case side2 => exact HC0_3.1); (case side3 => exact (Kd.C_below HR0_4.1 HB.1)); (case side4 => exact HC0_4.1); rintro e w10 ⟨rfl, hb⟩; refine ⟨_, rfl, ?_⟩; replace BK309 := ak (blk_below BK309.1 hb); replace HB := ak (below_step HB.1 hb); (try clear hb)))
      go_ret
      exact ⟨er_, hq1_ HB.1 GE309.1⟩
     ·rw [if_neg c8] at H; have c8b0 : (t310 == a2) = false := beq_eq_false_iff_ne.mpr c8; have c8b1 : (t310 != a2) = true := bne_iff_ne.mpr c8; have H' := ak H; clear H; have hcz11_0 : wr.cell? ⟨gb309, 0, none⟩ = some (.int .i64 a0_0) := (blk_cell BK309.1 0).trans rfl; have hcz11_1 : wr.cell? ⟨gb309, 1, none⟩ = some (.int .i64 a0_1) := (blk_cell BK309.1 1).trans rfl; have hcz11_2 : wr.cell? ⟨gb309, 2, none⟩ = some (.int .i64 a0_2) := (blk_cell BK309.1 2).trans rfl; have hcz11_3 : wr.cell? ⟨gb309, 3, none⟩ = some (.slice A0_3 l0_3.length c0_3) := (blk_cell BK309.1 3).trans rfl; have hcz11_4 : wr.cell? ⟨gb309, 4, none⟩ = some (.slice A0_4 l0_4.length c0_4) := (blk_cell BK309.1 4).trans rfl; have hfz11_0 := blk_frozen BK309.1 0; have hfz11_1 := blk_frozen BK309.1 1; have hfz11_2 := blk_frozen BK309.1 2; have hfz11_3 := blk_frozen BK309.1 3; have hfz11_4 := blk_frozen BK309.1 4
      go_wp2_with (first | ((with_reducible refine gate_callee (f := 88) rfl ?_); refine goesL_ (some 18) rfl rfl Try.func88 (by kernel_rfl) rfl #[.agg #[.int .i64 a0_0, .int .i64 a0_1, .int .i64 a0_2, .slice A0_3 l0_3.length c0_3, .slice A0_4 l0_4.length c0_4], .int .i64 a1, .int .i64 x7_1] rfl (sm_) ?_; (with_reducible refine (taquinref07_Next.calls k1 a0_0 a0_1 a0_2 _ _ l0_3 _ _ l0_4 a1 x7_1 t310 true _ ?side1 ?side2 ?side3 ?side4 A6.1).mono ?_); (case side1 => exact (Kd.C_below HR0_3.1 HB.1)); (case side2 => exact HC0_3.1); (case side3 => exact (Kd.C_below HR0_4.1 HB.1)); (case side4 => exact HC0_4.1); rintro e w12 ⟨rfl, hb⟩; refine ⟨_, rfl, ?_⟩; replace BK309 := ak (blk_below BK309.1 hb); replace HB := ak (below_step HB.1 hb); (try clear hb)))
      go_roundg k1
      case measure => have := HK1.1; omega
      case rel => exact ⟨(wrap64 (x7_1 + 1)), (rs_), H', ⟨by have := HK1.1; omega⟩, ⟨by (with_reducible repeat (first | refine blk_drewN ?_ _ | refine blk_drew ?_ | refine blk_alloc ?_ _)); exact BK309.1⟩, ⟨hq1_ HB.1 GE309.1⟩⟩
    ·replace c7 := Bool.eq_false_iff.mpr c7; subst c7
     have H1 : (taquinref25_Gets.l0 k1 a1 a2 (wrap64 (x7_1 + 1)) a0_0 a0_1 a0_2 l0_3 l0_4) = some r := by rw [if_neg (show ¬ (false = true) by decide)] at H; exact H
     clear H; have H := H1; clear H1; have H' := ak H; clear H; have hcz13_0 : wr.cell? ⟨gb309, 0, none⟩ = some (.int .i64 a0_0) := (blk_cell BK309.1 0).trans rfl; have hcz13_1 : wr.cell? ⟨gb309, 1, none⟩ = some (.int .i64 a0_1) := (blk_cell BK309.1 1).trans rfl; have hcz13_2 : wr.cell? ⟨gb309, 2, none⟩ = some (.int .i64 a0_2) := (blk_cell BK309.1 2).trans rfl; have hcz13_3 : wr.cell? ⟨gb309, 3, none⟩ = some (.slice A0_3 l0_3.length c0_3) := (blk_cell BK309.1 3).trans rfl; have hcz13_4 : wr.cell? ⟨gb309, 4, none⟩ = some (.slice A0_4 l0_4.length c0_4) := (blk_cell BK309.1 4).trans rfl; have hfz13_0 := blk_frozen BK309.1 0; have hfz13_1 := blk_frozen BK309.1 1; have hfz13_2 := blk_frozen BK309.1 2; have hfz13_3 := blk_frozen BK309.1 3; have hfz13_4 := blk_frozen BK309.1 4
     go_wp2_with (first | ((with_reducible refine gate_callee (f := 88) rfl ?_); refine goesL_ (some 18) rfl rfl Try.func88 (by kernel_rfl) rfl #[.agg #[.int .i64 a0_0, .int .i64 a0_1, .int .i64 a0_2, .slice A0_3 l0_3.length c0_3, .slice A0_4 l0_4.length c0_4], .int .i64 a1, .int .i64 x7_1] rfl (sm_) ?_; (with_reducible refine (taquinref07_Next.calls k1 a0_0 a0_1 a0_2 _ _ l0_3 _ _ l0_4 a1 x7_1 t310 false _ ?side1 ?side2 ?side3 ?side4 A6.1).mono ?_); (case side1 => exact (Kd.C_below HR0_3.1 HB.1)); (case side2 => exact HC0_3.1); (case side3 => exact (Kd.C_below HR0_4.1 HB.1)); (case side4 => exact HC0_4.1); rintro e w14 ⟨rfl, hb⟩; refine ⟨_, rfl, ?_⟩; replace BK309 := ak (blk_below BK309.1 hb); replace HB := ak (below_step HB.1 hb); (try clear hb)))
     go_roundg k1
     case measure => have := HK1.1; omega
     case rel => exact ⟨(wrap64 (x7_1 + 1)), (rs_), H', ⟨by have := HK1.1; omega⟩, ⟨by (with_reducible repeat (first | refine blk_drewN ?_ _ | refine blk_drew ?_ | refine blk_alloc ?_ _)); exact BK309.1⟩, ⟨hq1_ HB.1 GE309.1⟩⟩
   ·rw [if_neg c5] at H; have c5b0 : decide (x7_1 < 6) = false := decide_eq_false c5; clear c5; obtain rfl := Option.some.inj H
    go_wp2
    go_ret
    exact ⟨er_, hq1_ HB.1 GE309.1⟩
mutual
def taquinref25_Choose.j0 : Nat → Int → Int → Bool → Option (Int)
 | 0, _, _, _ => none
 | k + 1, x0, x1, x13 => if x13 = true then (some 0) else (taquinref25_Choose.l0 k x0 x1 1 0)
def taquinref25_Choose.l0 : Nat → Int → Int → Int → Int → Option (Int)
 | 0, _, _, _, _ => none
 | k + 1, x0, x1, x5, x6 => if x6 < x1 then (if (wrap64 (x6 + 1)) = 0 then (none) else (taquinref25_Choose.l0 k x0 x1 (wrap64 (Int.tdiv (wrap64 (x5 * (wrap64 (x0 - x6)))) (wrap64 (x6 + 1)))) (wrap64 (x6 + 1)))) else (some x5)
end
def taquinref25_Choose.f (k : Nat) (a0 : Int) (a1 : Int) : Option (Int) := if a1 < 0 then (taquinref25_Choose.j0 k a0 a1 true) else (taquinref25_Choose.j0 k a0 a1 (decide (a1 > a0)))
theorem taquinref25_Choose.mono_l : ∀ k, (∀ y0 y1 y2, LeO (taquinref25_Choose.j0 k y0 y1 y2) (taquinref25_Choose.j0 (k + 1) y0 y1 y2)) ∧ (∀ y0 y1 y2 y3, LeO (taquinref25_Choose.l0 k y0 y1 y2 y3) (taquinref25_Choose.l0 (k + 1) y0 y1 y2 y3))
 | 0 => ⟨fun _ _ _ r h => by simp [taquinref25_Choose.j0] at h, fun _ _ _ _ r h => by simp [taquinref25_Choose.l0] at h⟩
 | k + 1 => by
  obtain ⟨ih0, ih1⟩ := taquinref25_Choose.mono_l k; refine ⟨?_, ?_⟩
  ·intro y0 y1 y2
   unfold taquinref25_Choose.j0
   repeat' first
   | (with_reducible exact ih0 _ _ _)
   | (with_reducible exact ih1 _ _ _ _)
   | (with_reducible exact LeO.refl _)
   | (with_reducible exact LeO.none _)
   | (with_reducible refine LeO.ite ?_ ?_)
   | (with_reducible refine LeO.bind ?_ (fun _ => ?_))
   | exact ih0 _ _ _
   | exact ih1 _ _ _ _
   | exact LeO.none _
   | refine LeO.ite ?_ ?_
   | refine LeO.bind ?_ (fun _ => ?_)
  ·intro y0 y1 y2 y3
   unfold taquinref25_Choose.l0
   repeat' first
   | (with_reducible exact ih0 _ _ _)
   | (with_reducible exact ih1 _ _ _ _)
   | (with_reducible exact LeO.refl _)
   | (with_reducible exact LeO.none _)
   | (with_reducible refine LeO.ite ?_ ?_)
   | (with_reducible refine LeO.bind ?_ (fun _ => ?_))
   | exact ih0 _ _ _
   | exact ih1 _ _ _ _
   | exact LeO.none _
   | refine LeO.ite ?_ ?_
   | refine LeO.bind ?_ (fun _ => ?_)
theorem taquinref25_Choose.mono : ∀ a0 a1 k, LeO (taquinref25_Choose.f k a0 a1) (taquinref25_Choose.f (k + 1) a0 a1) := by
 intro a0 a1 k; obtain ⟨ih0, ih1⟩ := taquinref25_Choose.mono_l k
 unfold taquinref25_Choose.f
 repeat' first
   | (with_reducible exact ih0 _ _ _)
   | (with_reducible exact ih1 _ _ _ _)
   | (with_reducible exact LeO.refl _)
   | (with_reducible exact LeO.none _)
   | (with_reducible refine LeO.ite ?_ ?_)
   | (with_reducible refine LeO.bind ?_ (fun _ => ?_))
   | exact ih0 _ _ _
   | exact ih1 _ _ _ _
   | exact LeO.none _
   | refine LeO.ite ?_ ?_
   | refine LeO.bind ?_ (fun _ => ?_)
set_option maxHeartbeats 8000000 in
set_option maxRecDepth 100000 in
theorem taquinref25_Choose.calls (k : Nat) (a0 : Int) (a1 : Int) (r : Int) (w : World) (h : taquinref25_Choose.f k a0 a1 = some r) :
  Calls Try.prog 76 #[.int .i64 a0, .int .i64 a1] w fun e w' => e = .returned (.int .i64 r) ∧ Drawn0 w w' := by
 have H : (if a1 < 0 then (taquinref25_Choose.j0 k a0 a1 true) else (taquinref25_Choose.j0 k a0 a1 (decide (a1 > a0)))) = some r := h; clear h; have HC3 := ak H; clear H
 go_enter Try.func76, Try.ntmps76
 go_upto_region 1 with (fail)
 go_cut [13] (fun v13 wc => ∃ (kq : Nat) (x13_2 : Bool), v13 = .bool x13_2 ∧ Aside0 (taquinref25_Choose.j0 kq a0 a1 x13_2 = some r) ∧ Aside0 (kq ≤ k) ∧ Drawn0 w wc)
 case first =>
  have H := HC3.1; clear HC3
  by_cases c4 : a1 < 0
  ·rw [if_pos c4] at H; have c4b0 : decide (a1 < 0) = true := decide_eq_true c4; clear c4; (first | rw [c4b0] | (simp only [i64_w, i32_w]; rw [c4b0]) | skip); have H' := ak H; clear H
   go_wp2
   go_meet
   case rel => exact ⟨_, (true), (rs_), H', ⟨by first | omega | exact Nat.le_refl _⟩, by repeat (first | exact Drawn0.refl _ | apply Drawn0.step)⟩
  ·rw [if_neg c4] at H; have c4b0 : decide (a1 < 0) = false := decide_eq_false c4; clear c4; (first | rw [c4b0] | (simp only [i64_w, i32_w]; rw [c4b0]) | skip); have H' := ak H; clear H
   go_wp2
   go_meet
   case rel => exact ⟨_, (decide (a1 > a0)), (rs_), H', ⟨by first | omega | exact Nat.le_refl _⟩, by repeat (first | exact Drawn0.refl _ | apply Drawn0.step)⟩
 case rest =>
  clear HC3; (try clear p2); (try clear c4); (try clear c4b0); obtain ⟨kq, x13_2, rfl, HA, HJ2, ⟨mc2, rfl⟩⟩ := hcut
  cases kq with
  | zero => exact absurd HA.1 (by simp [taquinref25_Choose.j0])
  | succ kj2 =>
   have H := HA.1; clear HA; simp only [taquinref25_Choose.j0] at H
   by_cases c5 : x13_2 = true
   ·subst c5
    have H1 : (some 0) = some r := by rw [if_pos rfl] at H; exact H
    clear H; have H := H1; clear H1; obtain rfl := Option.some.inj H
    go_wp2
    go_ret
    exact ⟨by first | rfl | (simp; done) | (simp [*]; done), by repeat (first | exact Drawn0.refl _ | apply Drawn0.step)⟩
   ·replace c5 := Bool.eq_false_iff.mpr c5; subst c5
    have H1 : (taquinref25_Choose.l0 kj2 a0 a1 1 0) = some r := by rw [if_neg (show ¬ (false = true) by decide)] at H; exact H
    clear H; have H := H1; clear H1; have H' := ak H; clear H
    go_wp2
    go_loopg [5, 6] kj2 (fun kq v5 v6 w' => ∃ (x5_2 : Int) (x6_2 : Int), v5 = .int .i64 x5_2 ∧ v6 = .int .i64 x6_2 ∧ Aside0 (taquinref25_Choose.l0 kq a0 a1 x5_2 x6_2 = some r) ∧ Aside0 (kq ≤ kj2) ∧ Drawn0 w w')
    case atStart => exact ⟨(1), (0), (rs_), (rs_), H', ⟨Nat.le_refl _⟩, by repeat (first | exact Drawn0.refl _ | apply Drawn0.step)⟩
    case round =>
     clear H'; (try clear c2); (try clear p2); (try clear c4); (try clear c4b0); (try clear c5); (try clear p2); obtain ⟨x5_2, x6_2, rfl, rfl, HA, HK2, ⟨m2, rfl⟩⟩ := hrel
     cases gk with
     | zero => exact absurd HA.1 (by simp [taquinref25_Choose.l0])
     | succ k2 =>
      have H := HA.1; clear HA; simp only [taquinref25_Choose.l0] at H
      by_cases c6 : x6_2 < a1
      ·rw [if_pos c6] at H; have c6b0 : decide (x6_2 < a1) = true := decide_eq_true c6; clear c6
       by_cases c7 : (wrap64 (x6_2 + 1)) = 0
       ·rw [if_pos c7] at H; exact absurd H (by simp)
       ·rw [if_neg c7] at H; have c7b0 : ((wrap64 (x6_2 + 1)) == 0) = false := beq_eq_false_iff_ne.mpr c7; have c7b1 : ((wrap64 (x6_2 + 1)) != 0) = true := bne_iff_ne.mpr c7; have H' := ak H; clear H
        go_wp2
        go_roundg k2
        case measure => have := HJ2.1; have := HK2.1; omega
        case rel => exact ⟨(wrap64 (Int.tdiv (wrap64 (x5_2 * (wrap64 (a0 - x6_2)))) (wrap64 (x6_2 + 1)))), (wrap64 (x6_2 + 1)), (rs_), (rs_), H', ⟨by have := HJ2.1; have := HK2.1; omega⟩, by repeat (first | exact Drawn0.refl _ | apply Drawn0.step)⟩
      ·rw [if_neg c6] at H; have c6b0 : decide (x6_2 < a1) = false := decide_eq_false c6; clear c6; obtain rfl := Option.some.inj H
       go_wp2
       go_ret
       exact ⟨by first | rfl | (simp; done) | (simp [*]; done), by repeat (first | exact Drawn0.refl _ | apply Drawn0.step)⟩
def taquinref25_Count.f (k : Nat) (a0 : Int) (a1 : Int) : Option (Int) := if a0 < 1 then (some 0) else (if a0 > 24 then (some 0) else (if a1 < 1 then (some 0) else (if a1 > a0 then (some 0) else ((taquinref25_Choose.f k (wrap64 (a0 - 1)) (wrap64 (a1 - 1))).bind fun t326 => (some (wrap64 (a0 * t326)))))))
theorem taquinref25_Count.mono : ∀ a0 a1 k, LeO (taquinref25_Count.f k a0 a1) (taquinref25_Count.f (k + 1) a0 a1) := by
 intro a0 a1 k
 unfold taquinref25_Count.f
 repeat' first
   | (with_reducible exact taquinref25_Choose.mono _ _ _)
   | (with_reducible exact LeO.refl _)
   | (with_reducible exact LeO.none _)
   | (with_reducible refine LeO.ite ?_ ?_)
   | (with_reducible refine LeO.bind ?_ (fun _ => ?_))
   | exact taquinref25_Choose.mono _ _ _
   | exact LeO.none _
   | refine LeO.ite ?_ ?_
   | refine LeO.bind ?_ (fun _ => ?_)
set_option maxHeartbeats 8000000 in
set_option maxRecDepth 100000 in
theorem taquinref25_Count.calls (k : Nat) (a0 : Int) (a1 : Int) (r : Int) (w : World) (h : taquinref25_Count.f k a0 a1 = some r) :
  Calls Try.prog 49 #[.int .i64 a0, .int .i64 a1] w fun e w' => e = .returned (.int .i64 r) ∧ Drawn0 w w' := by
 have H : (if a0 < 1 then (some 0) else (if a0 > 24 then (some 0) else (if a1 < 1 then (some 0) else (if a1 > a0 then (some 0) else ((taquinref25_Choose.f k (wrap64 (a0 - 1)) (wrap64 (a1 - 1))).bind fun t326 => (some (wrap64 (a0 * t326)))))))) = some r := h; clear h
 by_cases c3 : a0 < 1
 ·rw [if_pos c3] at H; have c3b0 : decide (a0 < 1) = true := decide_eq_true c3; clear c3; obtain rfl := Option.some.inj H
  go_enter Try.func49, Try.ntmps49
  go_wp2
  go_ret
  exact ⟨by first | rfl | (simp; done) | (simp [*]; done), by repeat (first | exact Drawn0.refl _ | apply Drawn0.step)⟩
 ·rw [if_neg c3] at H; have c3b0 : decide (a0 < 1) = false := decide_eq_false c3; clear c3
  by_cases c4 : a0 > 24
  ·rw [if_pos c4] at H; have c4b0 : decide (24 < a0) = true := decide_eq_true c4; clear c4; obtain rfl := Option.some.inj H
   go_enter Try.func49, Try.ntmps49
   go_wp2
   go_ret
   exact ⟨by first | rfl | (simp; done) | (simp [*]; done), by repeat (first | exact Drawn0.refl _ | apply Drawn0.step)⟩
  ·rw [if_neg c4] at H; have c4b0 : decide (24 < a0) = false := decide_eq_false c4; clear c4
   by_cases c5 : a1 < 1
   ·rw [if_pos c5] at H; have c5b0 : decide (a1 < 1) = true := decide_eq_true c5; clear c5; obtain rfl := Option.some.inj H
    go_enter Try.func49, Try.ntmps49
    go_wp2
    go_ret
    exact ⟨by first | rfl | (simp; done) | (simp [*]; done), by repeat (first | exact Drawn0.refl _ | apply Drawn0.step)⟩
   ·rw [if_neg c5] at H; have c5b0 : decide (a1 < 1) = false := decide_eq_false c5; clear c5
    by_cases c6 : a1 > a0
    ·rw [if_pos c6] at H; have c6b0 : decide (a0 < a1) = true := decide_eq_true c6; clear c6; obtain rfl := Option.some.inj H
     go_enter Try.func49, Try.ntmps49
     go_wp2
     go_ret
     exact ⟨by first | rfl | (simp; done) | (simp [*]; done), by repeat (first | exact Drawn0.refl _ | apply Drawn0.step)⟩
    ·rw [if_neg c6] at H; have c6b0 : decide (a0 < a1) = false := decide_eq_false c6; clear c6; replace H := Option.bind_eq_some_iff.mp H; obtain ⟨t326, A70, H⟩ := H
     replace H : (some (wrap64 (a0 * t326))) = some r := H
     have A7 := ak A70; clear A70; obtain rfl := Option.some.inj H
     go_enter Try.func49, Try.ntmps49
     go_wp2_with (first | ((with_reducible refine gate_callee (f := 76) rfl ?_); refine goesL_ (some 25) rfl rfl Try.func76 (by kernel_rfl) rfl #[.int .i64 (wrap64 (a0 - 1)), .int .i64 (wrap64 (a1 - 1))] rfl (sm_) ?_; (with_reducible refine (taquinref25_Choose.calls k (wrap64 (a0 - 1)) (wrap64 (a1 - 1)) t326 _ A7.1).mono ?_); rintro e w' ⟨rfl, ⟨nd, rfl⟩⟩; refine ⟨_, rfl, ?_⟩))
     go_ret
     exact ⟨by first | rfl | (simp; done) | (simp [*]; done), by repeat (first | exact Drawn0.refl _ | apply Drawn0.step)⟩
mutual
def taquinref25_Unrank.j0 : Nat → Int → Int → Int → Bool → Option (List Bool × Int × Bool)
 | 0, _, _, _, _ => none
 | k + 1, x0, x1, x2, x23 => if x23 = true then (some (([] : List Bool), 0, false)) else ((taquinref25_Choose.f k (wrap64 (x0 - 1)) (wrap64 (x1 - 1))).bind fun t329 => (if 0 ≤ x0 then (if (x0 : Int).toNat ≤ 281474976710656 then (if t329 = 0 then (none) else (taquinref25_Unrank.l0 k x0 (Int.tmod x2 t329) (wrap64 (x1 - 1)) (wrap64 (x0 - 1)) 0 (List.replicate (x0 : Int).toNat false) (wrap64 (Int.tdiv x2 t329)))) else (none)) else (none)))
def taquinref25_Unrank.l0 : Nat → Int → Int → Int → Int → Int → List Bool → Int → Option (List Bool × Int × Bool)
 | 0, _, _, _, _, _, _, _ => none
 | k + 1, x0, x10, x11, x12, x13, x334000, x334001 => if x13 < x0 then (if x13 = x334001 then (if 0 ≤ x13 then (if x13 < (x334000.length : Int) then (taquinref25_Unrank.l0 k x0 x10 x11 x12 (wrap64 (x13 + 1)) (x334000.set (x13 : Int).toNat true) x334001) else (none)) else (none)) else ((taquinref25_Choose.f k (wrap64 (x12 - 1)) (wrap64 (x11 - 1))).bind fun t335 => (if x10 < t335 then (if 0 ≤ x13 then (if x13 < (x334000.length : Int) then (taquinref25_Unrank.l0 k x0 x10 (wrap64 (x11 - 1)) (wrap64 (x12 - 1)) (wrap64 (x13 + 1)) (x334000.set (x13 : Int).toNat true) x334001) else (none)) else (none)) else (taquinref25_Unrank.l0 k x0 (wrap64 (x10 - t335)) x11 (wrap64 (x12 - 1)) (wrap64 (x13 + 1)) x334000 x334001)))) else (some (x334000, x334001, true))
end
def taquinref25_Unrank.f (k : Nat) (a0 : Int) (a1 : Int) (a2 : Int) : Option (List Bool × Int × Bool) := if a2 < 0 then (taquinref25_Unrank.j0 k a0 a1 a2 true) else ((taquinref25_Count.f k a0 a1).bind fun t328 => (taquinref25_Unrank.j0 k a0 a1 a2 (decide (a2 ≥ t328))))
theorem taquinref25_Unrank.mono_l : ∀ k, (∀ y0 y1 y2 y3, LeO (taquinref25_Unrank.j0 k y0 y1 y2 y3) (taquinref25_Unrank.j0 (k + 1) y0 y1 y2 y3)) ∧ (∀ y0 y1 y2 y3 y4 y5 y6, LeO (taquinref25_Unrank.l0 k y0 y1 y2 y3 y4 y5 y6) (taquinref25_Unrank.l0 (k + 1) y0 y1 y2 y3 y4 y5 y6))
 | 0 => ⟨fun _ _ _ _ r h => by simp [taquinref25_Unrank.j0] at h, fun _ _ _ _ _ _ _ r h => by simp [taquinref25_Unrank.l0] at h⟩
 | k + 1 => by
  obtain ⟨ih0, ih1⟩ := taquinref25_Unrank.mono_l k; refine ⟨?_, ?_⟩
  ·intro y0 y1 y2 y3
   unfold taquinref25_Unrank.j0
   repeat' first
   | (with_reducible exact ih0 _ _ _ _)
   | (with_reducible exact ih1 _ _ _ _ _ _ _)
   | (with_reducible exact taquinref25_Choose.mono _ _ _)
   | (with_reducible exact taquinref25_Count.mono _ _ _)
   | (with_reducible exact LeO.refl _)
   | (with_reducible exact LeO.none _)
   | (with_reducible refine LeO.ite ?_ ?_)
   | (with_reducible refine LeO.bind ?_ (fun _ => ?_))
   | exact ih0 _ _ _ _
   | exact ih1 _ _ _ _ _ _ _
   | exact taquinref25_Choose.mono _ _ _
   | exact taquinref25_Count.mono _ _ _
   | exact LeO.none _
   | refine LeO.ite ?_ ?_
   | refine LeO.bind ?_ (fun _ => ?_)
  ·intro y0 y1 y2 y3 y4 y5 y6
   unfold taquinref25_Unrank.l0
   repeat' first
   | (with_reducible exact ih0 _ _ _ _)
   | (with_reducible exact ih1 _ _ _ _ _ _ _)
   | (with_reducible exact taquinref25_Choose.mono _ _ _)
   | (with_reducible exact taquinref25_Count.mono _ _ _)
   | (with_reducible exact LeO.refl _)
   | (with_reducible exact LeO.none _)
   | (with_reducible refine LeO.ite ?_ ?_)
   | (with_reducible refine LeO.bind ?_ (fun _ => ?_))
   | exact ih0 _ _ _ _
   | exact ih1 _ _ _ _ _ _ _
   | exact taquinref25_Choose.mono _ _ _
   | exact taquinref25_Count.mono _ _ _
   | exact LeO.none _
   | refine LeO.ite ?_ ?_
   | refine LeO.bind ?_ (fun _ => ?_)
theorem taquinref25_Unrank.mono : ∀ a0 a1 a2 k, LeO (taquinref25_Unrank.f k a0 a1 a2) (taquinref25_Unrank.f (k + 1) a0 a1 a2) := by
 intro a0 a1 a2 k; obtain ⟨ih0, ih1⟩ := taquinref25_Unrank.mono_l k
 unfold taquinref25_Unrank.f
 repeat' first
   | (with_reducible exact ih0 _ _ _ _)
   | (with_reducible exact ih1 _ _ _ _ _ _ _)
   | (with_reducible exact taquinref25_Choose.mono _ _ _)
   | (with_reducible exact taquinref25_Count.mono _ _ _)
   | (with_reducible exact LeO.refl _)
   | (with_reducible exact LeO.none _)
   | (with_reducible refine LeO.ite ?_ ?_)
   | (with_reducible refine LeO.bind ?_ (fun _ => ?_))
   | exact ih0 _ _ _ _
   | exact ih1 _ _ _ _ _ _ _
   | exact taquinref25_Choose.mono _ _ _
   | exact taquinref25_Count.mono _ _ _
   | exact LeO.none _
   | refine LeO.ite ?_ ?_
   | refine LeO.bind ?_ (fun _ => ?_)
def taquinref25_Unrank.T4 : Bool × List (List Nat × List Nat) := (true, [([], []), ([0, 0], [0]), ([], []), ([], []), ([2, 3], [2, 3]), ([1, 4], [1, 4]), ([], []), ([6, 5, 0, 1, 2, 3, 4, 5, 6], [5, 6])])
def taquinref25_Unrank.B4 : List Nat := [0, 1, 0, 0, 12, 31, 0, 127]
theorem taquinref25_Unrank.tab4 : rtab .any (opsOf Try.f57 4) = taquinref25_Unrank.T4 := by kernel_rfl
theorem taquinref25_Unrank.bits4 : waitsOk taquinref25_Unrank.T4.2 taquinref25_Unrank.B4 = true := by kernel_rfl
set_option maxHeartbeats 8000000 in
set_option maxRecDepth 100000 in
theorem taquinref25_Unrank.calls (k : Nat) (a0 : Int) (a1 : Int) (a2 : Int) (r1 : List Bool) (r2 : Int) (r3 : Bool) (w : World) (h : taquinref25_Unrank.f k a0 a1 a2 = some (r1, r2, r3)) :
  Calls Try.prog 57 #[.int .i64 a0, .int .i64 a1, .int .i64 a2] w fun e w' => ∃ v0_ : Value, e = .returned (.tuple #[.agg #[v0_, .int .i64 r2], .bool r3]) ∧ Kd.R Kd.bool 4 w' w.heap.size (fun _ => True) v0_ r1 ∧ Below w.heap.size w w' := by
 have hu27 := Try.underlying27; have HB := ak (Below.refl w.heap.size w); have H : (if a2 < 0 then (taquinref25_Unrank.j0 k a0 a1 a2 true) else ((taquinref25_Count.f k a0 a1).bind fun t328 => (taquinref25_Unrank.j0 k a0 a1 a2 (decide (a2 ≥ t328))))) = some (r1, r2, r3) := h; clear h; have HC4 := ak H; clear H
 go_enter Try.func57, Try.ntmps57
 go_upto_region 1 with (first | ((with_reducible refine gate_dst (N := 6) rfl ?_); refine box_event ?hg (N := 6) ?hd (cs := #[.slice none 0 0, .int .i64 0]) (t := 27) ?hr ?_; (case hd => rfl); (case hg => rfl); (case hr => first | (go_simp; done) | (go_simp; rfl)); intro gb327 hg w5 hbox hb; have BK327 := ak (hbox); have GW327 := gw_ hg HB.1.size; have GE327 := gw_ hg HB.1.size; replace HB := ak (below_step HB.1 hb); clear hb hbox hg))
 (try simp only [Act.put, List.setIfInBounds_toArray, List.set_cons_zero, List.set_cons_succ])
 go_cut [23] (fun v23 wc => ∃ (kq : Nat) (x23_3 : Bool), v23 = .bool x23_3 ∧ Aside0 (taquinref25_Unrank.j0 kq a0 a1 a2 x23_3 = some (r1, r2, r3)) ∧ Aside0 (kq ≤ k) ∧ Aside0 (wc.heap[gb327]? = some (.cells #[(.slice none 0 0), .int .i64 0] 27 (0, 0))) ∧ Aside0 (Below w.heap.size w wc))
 case first =>
  have H := HC4.1; clear HC4
  by_cases c6 : a2 < 0
  ·rw [if_pos c6] at H; have c6b0 : decide (a2 < 0) = true := decide_eq_true c6; clear c6; (first | rw [c6b0] | (simp only [i64_w, i32_w]; rw [c6b0]) | skip); have H' := ak H; clear H
   go_wp2
   go_meet
   case rel => exact ⟨_, (true), (rs_), H', ⟨by first | omega | exact Nat.le_refl _⟩, ⟨by (with_reducible repeat (first | refine blk_drewN ?_ _ | refine blk_drew ?_ | refine blk_alloc ?_ _)); exact BK327.1⟩, ⟨hq1_ HB.1 GE327.1⟩⟩
  ·rw [if_neg c6] at H; have c6b0 : decide (a2 < 0) = false := decide_eq_false c6; clear c6; (first | rw [c6b0] | (simp only [i64_w, i32_w]; rw [c6b0]) | skip); replace H := Option.bind_eq_some_iff.mp H; obtain ⟨t328, A70, H⟩ := H
   replace H : (taquinref25_Unrank.j0 k a0 a1 a2 (decide (a2 ≥ t328))) = some (r1, r2, r3) := H
   have A7 := ak A70; clear A70; have H' := ak H; clear H
   go_wp2_with (first | (go_at_call 49; (with_reducible refine (taquinref25_Count.calls k a0 a1 t328 _ A7.1).mono ?_); rintro e w' ⟨rfl, ⟨nd, rfl⟩⟩))
   go_meet
   case rel => exact ⟨_, (decide (a2 ≥ t328)), (rs_), H', ⟨by first | omega | exact Nat.le_refl _⟩, ⟨by (with_reducible repeat (first | refine blk_drewN ?_ _ | refine blk_drew ?_ | refine blk_alloc ?_ _)); exact BK327.1⟩, ⟨hq1_ HB.1 GE327.1⟩⟩
 case rest =>
  clear HC4; obtain ⟨kq, x23_3, rfl, HA, HJ3, BK327, HB⟩ := hcut
  cases kq with
  | zero => exact absurd HA.1 (by simp [taquinref25_Unrank.j0])
  | succ kj3 =>
   have H := HA.1; clear HA; simp only [taquinref25_Unrank.j0] at H
   by_cases c8 : x23_3 = true
   ·subst c8
    have H1 : (some (([] : List Bool), 0, false)) = some (r1, r2, r3) := by rw [if_pos rfl] at H; exact H
    clear H; have H := H1; clear H1; simp only [Option.some.injEq, Prod.mk.injEq] at H; obtain ⟨rfl, rfl, rfl⟩ := H; have hcz9_0 : wc.cell? ⟨gb327, 0, none⟩ = some (.slice none 0 0) := (blk_cell BK327.1 0).trans rfl; have hcz9_1 : wc.cell? ⟨gb327, 1, none⟩ = some (.int .i64 0) := (blk_cell BK327.1 1).trans rfl; have hfz9_0 := blk_frozen BK327.1 0; have hfz9_1 := blk_frozen BK327.1 1
    go_wp2
    refine bodyPost_ret (results_ct rfl _ _ gb327 27 #[.slice none 0 0, .int .i64 0] (0, 0) _ rfl (by (with_reducible repeat (first | refine blk_drewN ?_ _ | refine blk_drew ?_ | refine blk_alloc ?_ _)); refine blk_put (cs := #[.slice none 0 0, .int .i64 0]) ?_ 1 _ rfl; (with_reducible repeat (first | refine blk_drewN ?_ _ | refine blk_drew ?_ | refine blk_alloc ?_ _)); refine blk_put (cs := #[.slice none 0 0, .int .i64 0]) ?_ 0 _ rfl; (with_reducible repeat (first | refine blk_drewN ?_ _ | refine blk_drew ?_ | refine blk_alloc ?_ _)); exact BK327.1) Try.underlying27 rfl (by kernel_rfl)) rfl ?_; exact ⟨_, er_, by first | exact Kd.R_nil _ _ _ _ _ | exact Kd.N_nil _ _ _ _ _ | exact Kd.V_nil _ _ _ _ _ | exact Kd.Q_nil _ _ _ _ _ | exact Kd.S_nil _ _ _ _ _, hq1_ HB.1 GE327.1⟩
   ·replace c8 := Bool.eq_false_iff.mpr c8; subst c8
    have H1 : ((taquinref25_Choose.f kj3 (wrap64 (a0 - 1)) (wrap64 (a1 - 1))).bind fun t329 => (if 0 ≤ a0 then (if (a0 : Int).toNat ≤ 281474976710656 then (if t329 = 0 then (none) else (taquinref25_Unrank.l0 kj3 a0 (Int.tmod a2 t329) (wrap64 (a1 - 1)) (wrap64 (a0 - 1)) 0 (List.replicate (a0 : Int).toNat false) (wrap64 (Int.tdiv a2 t329)))) else (none)) else (none))) = some (r1, r2, r3) := by rw [if_neg (show ¬ (false = true) by decide)] at H; exact H
    clear H; have H := H1; clear H1; replace H := Option.bind_eq_some_iff.mp H; obtain ⟨t329, A100, H⟩ := H
    replace H : (if 0 ≤ a0 then (if (a0 : Int).toNat ≤ 281474976710656 then (if t329 = 0 then (none) else (taquinref25_Unrank.l0 kj3 a0 (Int.tmod a2 t329) (wrap64 (a1 - 1)) (wrap64 (a0 - 1)) 0 (List.replicate (a0 : Int).toNat false) (wrap64 (Int.tdiv a2 t329)))) else (none)) else (none)) = some (r1, r2, r3) := H
    have A10 := ak A100; clear A100
    by_cases c11 : 0 ≤ a0
    ·rw [if_pos c11] at H; have c11b0 := eq_true c11; have c11b1 : decide (0 ≤ a0) = true := decide_eq_true c11; clear c11
     by_cases c12 : (a0 : Int).toNat ≤ 281474976710656
     ·rw [if_pos c12] at H; have c12b0 := eq_true c12; have c12b1 : decide ((a0 : Int).toNat ≤ 281474976710656) = true := decide_eq_true c12; clear c12; obtain ⟨y330, hy330⟩ : ∃ y_ : List Bool, y_ = (List.replicate (a0 : Int).toNat false) := ⟨_, rfl⟩
      replace H : (if t329 = 0 then (none) else (taquinref25_Unrank.l0 kj3 a0 (Int.tmod a2 t329) (wrap64 (a1 - 1)) (wrap64 (a0 - 1)) 0 y330 (wrap64 (Int.tdiv a2 t329)))) = some (r1, r2, r3) := by first | (rw [hy330]; with_reducible exact H) | (have H2_ := (Option.bind_some _ _).symm.trans H; rw [hy330]; with_reducible exact H2_) | (have H2_ := (Option.bind_some _ _).symm.trans H; with_reducible exact H2_) | with_reducible exact H | (rw [hy330]; exact H) | exact H
      have Ny330 := ak hy330; clear hy330
      by_cases c13 : t329 = 0
      ·rw [if_pos c13] at H; exact absurd H (by simp)
      ·rw [if_neg c13] at H; have c13b0 : (t329 == 0) = false := beq_eq_false_iff_ne.mpr c13; have c13b1 : (t329 != 0) = true := bne_iff_ne.mpr c13; have H' := ak H; clear H
       try go_wp2_with (first | ((with_reducible refine gate_callee (f := 76) rfl ?_); refine goesL_ (some 29) rfl rfl Try.func76 (by kernel_rfl) rfl #[.int .i64 (wrap64 (a0 - 1)), .int .i64 (wrap64 (a1 - 1))] rfl (sm_) ?_; (with_reducible refine (taquinref25_Choose.calls kj3 (wrap64 (a0 - 1)) (wrap64 (a1 - 1)) t329 _ A10.1).mono ?_); rintro e w' ⟨rfl, ⟨nd, rfl⟩⟩; refine ⟨_, rfl, ?_⟩; (try (rw [drewN_self wc]; generalize hq_ : World.drewN wc _ = wc; have n0_ : Aside0 (wc.heap[gb327]? = some (.cells #[.slice none 0 0, .int .i64 0] 27 (0, 0))) := ⟨by rw [← hq_]; exact (bq_ BK327.1)⟩; have n1_ : Aside0 (Below w.heap.size w wc) := ⟨by rw [← hq_]; exact (hq1_ HB.1 GE327.1)⟩; clear BK327 HB hq_; have BK327 := n0_; have HB := n1_; clear n0_ n1_))))
       have n0_ := ak (blk_drew BK327.1); have n1_ := ak (below_drew1 HB.1); clear BK327; clear HB; have BK327 := n0_; have HB := n1_; clear n0_ n1_; refine start_ (n := 8) (S := fun w' => True) (ds := []) (bl 8 0) (by kernel_rfl) rfl rfl trivial (fun hHeld => ?_); refine with_tabW taquinref25_Unrank.tab4 taquinref25_Unrank.bits4 (fun HT_ HW_ => ?_); generalize wc.drew = w14 at BK327 HB hHeld ⊢; refine pu_ 0 (some 30) (bl 8 1) HT_.1 ?_; refine pu_ 2 (some 32) (bl 8 5) HT_.1 ?_; refine pu_ 3 (some 33) (bl 8 13) HT_.1 ?_; refine pu_ 4 (some 34) (bl 8 29) HT_.1 ?_; refine join_ (σ := Value × Nat) 1 (bl 8 127) (fun s_ => [(31, s_.1), (9, .pointer (some ⟨s_.2, 0, none⟩)), (35, .agg #[s_.1, .int .i64 (wrap64 (Int.tdiv a2 t329))])]) (fun s_ w' => (Kd.R Kd.bool 4 w' w.heap.size (fun _ => True) s_.1 y330) ∧ (w'.heap[gb327]? = some (.cells #[.slice none 0 0, .int .i64 0] 27 (0, 0))) ∧ (w'.heap[s_.2]? = some (.cells #[.slice none 0 0, .int .i64 0] 27 (0, 0))) ∧ (w.heap.size ≤ s_.2) ∧ (w.heap.size ≤ s_.2) ∧ (gb327 ≠ s_.2) ∧ (s_.2 ≠ gb327) ∧ (Below w.heap.size w w')) ?_ ?_; rotate_left
       ·intro hCont; refine two_ (i := 1) (j := 6) (Ni := some 31) (Nj := some 9) (bl 8 31) (bl 8 93) rfl rfl rfl rfl (two_of HT_.1 (by kernel_rfl)) (by decide) (by decide) (fun K hK => ?_) (fun K hK => ?_)
        ·skip
         refine Kd.R_make_step Kd.bool _ 4 (by rfl) (N := 31) rfl 25 _ _ rfl a0 rfl rfl Try.underlying25 (.bool false) 1 info4 rfl (by decide) (by omega) false (ok := fun _ => True) (okp := fun _ => True) rfl (fun _ hk => hk) trivial (of_decide_eq_true (by assumption)) (Nat.le_trans (Nat.mul_le_mul_right _ (of_decide_eq_true (by assumption) : a0.toNat ≤ 281474976710656)) (by omega)) (Below.refl _ _) (Nat.le_refl _) ?_; intro v331 w15 ho16 hb hg_ hnew_; clear hg_ hnew_; (first | rw [← Ny330.1] at ho16 | (simp only [Int.reduceToNat] at ho16; rw [← Ny330.1] at ho16)); have n0_ := ak (Kd.R_lower ho16 (below_size (hq1_ HB.1 GE327.1))); have n1_ := ak (blk_below BK327.1 hb); have n2_ := ak (below_step HB.1 hb); clear BK327; clear HB; have HO332 := n0_; have BK327 := n1_; have HB := n2_; clear n0_ n1_ n2_; clear hb ho16; obtain ⟨Ao17, co17, eo17⟩ := Kd.R_slice HO332.1; (first | subst eo17 | (injection eo17 with f1_ f2_ f3_; have f4_ := f1_.symm; have f5_ := f3_.symm; clear f1_ f2_ f3_; subst f4_; subst f5_)); refine hK.out _ _ trivial (fun hHeld => ?_); clear hK K; refine norm_ (a' := ?_) ?_ ?_; rotate_left
         ·show Act.put _ (some 31) _ = _
          simp only [Act.put, List.setIfInBounds_toArray, List.set_cons_zero, List.set_cons_succ, i64_w, i32_w]; rfl
         refine pu_ 5 (some 35) (bl 8 63) HT_.1 ?_; refine one_ (i := 6) (N := some 9) (bl 8 127) rfl rfl (one_of HT_.1 (by kernel_rfl)) (by decide) (fun K hK => ?_); refine box_step ?hg (N := 9) ?hd (cs := #[.slice none 0 0, .int .i64 0]) (t := 27) ?hr ?_; (case hd => rfl); (case hg => rfl); (case hr => first | (go_simp; done) | (go_simp; rfl)); intro gb333 hg w18 hbox hb; have n0_ := ak (Kd.R_below HO332.1 hb); have n1_ := ak (blk_below BK327.1 hb); have n2_ := ak (below_step HB.1 hb); have n3_ := ak (hbox); have n4_ := gw_ hg HB.1.size; have n5_ := gw_ hg HB.1.size; have n6_ := ak ((by rw [hg]; exact Nat.ne_of_lt (blk_lt BK327.1) : gb327 ≠ gb333)); have n7_ := ak ((by rw [hg]; exact Nat.ne_of_gt (blk_lt BK327.1) : gb333 ≠ gb327)); clear HO332; clear BK327; clear HB; have HO332 := n0_; have BK327 := n1_; have HB := n2_; have BK333 := n3_; have GW333 := n4_; have GE333 := n5_; have NB327_333 := n6_; have NB333_327 := n7_; clear n0_ n1_ n2_ n3_ n4_ n5_ n6_ n7_; clear hb hbox hg; refine hK.out _ _ trivial (fun hHeld => ?_); clear hK K; refine norm_ (a' := ?_) ?_ ?_; rotate_left
         ·show Act.put _ (some 9) _ = _
          simp only [Act.put, List.setIfInBounds_toArray, List.set_cons_zero, List.set_cons_succ, i64_w, i32_w]; rfl
         exact norm_ (by simp only [putAll, Act.put, List.setIfInBounds_toArray, List.set_cons_zero, List.set_cons_succ]) (hCont (.slice Ao17 y330.length co17, gb333) _ ⟨(rq_ HO332.1), (bq_ BK327.1), (bq_ BK333.1), GW333.1, GE333.1, NB327_333.1, NB333_327.1, (hq2_ HB.1 GE327.1 GE333.1)⟩)
        ·skip
         refine box_step ?hg (N := 9) ?hd (cs := #[.slice none 0 0, .int .i64 0]) (t := 27) ?hr ?_; (case hd => rfl); (case hg => rfl); (case hr => first | (go_simp; done) | (go_simp; rfl)); intro gb333 hg w15 hbox hb; have n0_ := ak (blk_below (g := gb327) (o := .cells #[.slice none 0 0, .int .i64 0] 27 (0, 0)) (bq_ BK327.1) hb); have n1_ := ak (below_step (hq1_ HB.1 GE327.1) hb); have n2_ := ak (hbox); have n3_ := gw_ hg HB.1.size; have n4_ := gw_ hg HB.1.size; have n5_ := ak ((by rw [hg]; exact Nat.ne_of_lt (blk_lt BK327.1) : gb327 ≠ gb333)); have n6_ := ak ((by rw [hg]; exact Nat.ne_of_gt (blk_lt BK327.1) : gb333 ≠ gb327)); clear BK327; clear HB; have BK327 := n0_; have HB := n1_; have BK333 := n2_; have GW333 := n3_; have GE333 := n4_; have NB327_333 := n5_; have NB333_327 := n6_; clear n0_ n1_ n2_ n3_ n4_ n5_ n6_; clear hb hbox hg; refine hK.out _ _ trivial (fun hHeld => ?_); clear hK K; refine norm_ (a' := ?_) ?_ ?_; rotate_left
         ·show Act.put _ (some 9) _ = _
          simp only [Act.put, List.setIfInBounds_toArray, List.set_cons_zero, List.set_cons_succ, i64_w, i32_w]; rfl
         refine one_ (i := 1) (N := some 31) (bl 8 95) rfl rfl (one_of HT_.1 (by kernel_rfl)) (by decide) (fun K hK => ?_); refine Kd.R_make_step Kd.bool _ 4 (by rfl) (N := 31) rfl 25 _ _ rfl a0 rfl rfl Try.underlying25 (.bool false) 1 info4 rfl (by decide) (by omega) false (ok := fun _ => True) (okp := fun _ => True) rfl (fun _ hk => hk) trivial (of_decide_eq_true (by assumption)) (Nat.le_trans (Nat.mul_le_mul_right _ (of_decide_eq_true (by assumption) : a0.toNat ≤ 281474976710656)) (by omega)) (Below.refl _ _) (Nat.le_refl _) ?_; intro v331 w16 ho17 hb hg_ hnew_; clear hg_ hnew_; (first | rw [← Ny330.1] at ho17 | (simp only [Int.reduceToNat] at ho17; rw [← Ny330.1] at ho17)); have n0_ := ak (Kd.R_lower ho17 HB.1.size); have n1_ := ak (blk_below BK327.1 hb); have n2_ := ak (blk_below BK333.1 hb); have n3_ := ak (below_step HB.1 hb); clear BK327; clear BK333; clear HB; have HO332 := n0_; have BK327 := n1_; have BK333 := n2_; have HB := n3_; clear n0_ n1_ n2_ n3_; clear hb ho17; obtain ⟨Ao18, co18, eo18⟩ := Kd.R_slice HO332.1; (first | subst eo18 | (injection eo18 with f1_ f2_ f3_; have f4_ := f1_.symm; have f5_ := f3_.symm; clear f1_ f2_ f3_; subst f4_; subst f5_)); refine hK.out _ _ trivial (fun hHeld => ?_); clear hK K; refine norm_ (a' := ?_) ?_ ?_; rotate_left
         ·show Act.put _ (some 31) _ = _
          simp only [Act.put, List.setIfInBounds_toArray, List.set_cons_zero, List.set_cons_succ, i64_w, i32_w]; rfl
         refine pu_ 5 (some 35) (bl 8 127) HT_.1 ?_; exact norm_ (by simp only [putAll, Act.put, List.setIfInBounds_toArray, List.set_cons_zero, List.set_cons_succ]) (hCont (.slice Ao18 y330.length co18, gb333) _ ⟨HO332.1, BK327.1, BK333.1, GW333.1, GE333.1, NB327_333.1, NB333_327.1, HB.1⟩)
       rintro ⟨v331, gb333⟩ w19 ⟨h0_, h1_, h2_, h3_, h4_, h5_, h6_, h7_⟩; have n0_ : Aside0 (Kd.R Kd.bool 4 w19 w.heap.size (fun _ => True) v331 y330) := ⟨h0_⟩; have n1_ : Aside0 (w19.heap[gb327]? = some (.cells #[.slice none 0 0, .int .i64 0] 27 (0, 0))) := ⟨h1_⟩; have n2_ : Aside0 (w19.heap[gb333]? = some (.cells #[.slice none 0 0, .int .i64 0] 27 (0, 0))) := ⟨h2_⟩; have n3_ : Aside0 (w.heap.size ≤ gb333) := ⟨h3_⟩; have n4_ : Aside0 (w.heap.size ≤ gb333) := ⟨h4_⟩; have n5_ : Aside0 (gb327 ≠ gb333) := ⟨h5_⟩; have n6_ : Aside0 (gb333 ≠ gb327) := ⟨h6_⟩; have n7_ : Aside0 (Below w.heap.size w w19) := ⟨h7_⟩; clear BK327; clear HB; clear h0_ h1_ h2_ h3_ h4_ h5_ h6_ h7_; have HO332 := n0_; have BK327 := n1_; have BK333 := n2_; have GW333 := n3_; have GE333 := n4_; have NB327_333 := n5_; have NB333_327 := n6_; have HB := n7_; clear n0_ n1_ n2_ n3_ n4_ n5_ n6_ n7_; have hHeld := trivial; obtain ⟨Ao20, co20, eo20⟩ := Kd.R_slice HO332.1; (first | subst eo20 | (injection eo20 with f1_ f2_ f3_; have f4_ := f1_.symm; have f5_ := f3_.symm; clear f1_ f2_ f3_; subst f4_; subst f5_)); refine norm_ (a' := ?_) ?_ ?_; rotate_left; (simp only [putAll, Act.put, List.setIfInBounds_toArray, List.set_cons_zero, List.set_cons_succ]; rfl); refine one_ (i := 7) (N := none) (bl 8 255) rfl rfl (one_of HT_.1 (by kernel_rfl)) (by decide) (fun K hK => ?_); have hs21 : w19.cell? ⟨gb333, 0, none⟩ = some (.slice none 0 0) := (blk_cell BK333.1 0).trans rfl; have hfs21 := blk_frozen BK333.1 0; have hns21_0 := NB327_333.1; have hms21_0 := NB333_327.1; have hs22 : w19.cell? ⟨gb333, 1, none⟩ = some (.int .i64 0) := (blk_cell BK333.1 1).trans rfl; have hfs22 := blk_frozen BK333.1 1; have hns22_0 := NB327_333.1; have hms22_0 := NB333_327.1; refine skip_ (w1 := ?_) (by rfl) rfl ?_ ?_; rotate_left; (go_simp; rfl); refine hK.out _ _ trivial (fun hHeld => ?_); clear hK K; refine done_ (done_of HT_.1 (by kernel_rfl)) ?_
       try go_wp2
       go_loopg [10, 11, 12, 13] kj3 (fun kq v10 v11 v12 v13 w' => ∃ (x10_2 : Int) (x11_2 : Int) (x12_2 : Int) (x13_2 : Int) (x334000_2 : List Bool) (u334000 : Value), v10 = .int .i64 x10_2 ∧ v11 = .int .i64 x11_2 ∧ v12 = .int .i64 x12_2 ∧ v13 = .int .i64 x13_2 ∧ Aside0 (taquinref25_Unrank.l0 kq a0 x10_2 x11_2 x12_2 x13_2 x334000_2 (wrap64 (Int.tdiv a2 t329)) = some (r1, r2, r3)) ∧ Aside0 (kq ≤ kj3) ∧ Aside0 (Kd.R Kd.bool 4 w' w.heap.size (fun _ => True) u334000 x334000_2) ∧ Aside0 (w'.heap[gb327]? = some (.cells #[(.slice none 0 0), .int .i64 0] 27 (0, 0))) ∧ Aside0 (w'.heap[gb333]? = some (.cells #[u334000, .int .i64 (wrap64 (Int.tdiv a2 t329))] 27 (0, 0))) ∧ Aside0 (Below w.heap.size w w'))
       case atStart => exact ⟨(Int.tmod a2 t329), (wrap64 (a1 - 1)), (wrap64 (a0 - 1)), (0), (y330), (.slice Ao20 y330.length co20), (rs_), (rs_), (rs_), (rs_), H', ⟨Nat.le_refl _⟩, ⟨by (with_reducible repeat (first | apply Kd.R_alloc | apply Kd.R_drewN | apply Kd.R_drew)); exact Kd.R_mono (Kd.R_far (p := ⟨gb333, 1, none⟩) (Kd.R_far (p := ⟨gb333, 0, none⟩) (Kd.R_types HO332.1 BK333.1 (by decide)) (fun _ hk => hk.2) (.slice Ao20 y330.length co20)) (fun _ hk => hk.2) (.int .i64 (wrap64 (Int.tdiv a2 t329)))) (fun _ hk => trivial)⟩, ⟨by (with_reducible repeat (first | refine blk_drewN ?_ _ | refine blk_drew ?_ | refine blk_alloc ?_ _)); refine blk_far ?_ NB327_333.1 _; (with_reducible repeat (first | refine blk_drewN ?_ _ | refine blk_drew ?_ | refine blk_alloc ?_ _)); refine blk_far ?_ NB327_333.1 _; (with_reducible repeat (first | refine blk_drewN ?_ _ | refine blk_drew ?_ | refine blk_alloc ?_ _)); exact BK327.1⟩, ⟨by (with_reducible repeat (first | refine blk_drewN ?_ _ | refine blk_drew ?_ | refine blk_alloc ?_ _)); refine blk_put (cs := #[.slice Ao20 y330.length co20, .int .i64 0]) ?_ 1 _ rfl; (with_reducible repeat (first | refine blk_drewN ?_ _ | refine blk_drew ?_ | refine blk_alloc ?_ _)); refine blk_put (cs := #[.slice none 0 0, .int .i64 0]) ?_ 0 _ rfl; (with_reducible repeat (first | refine blk_drewN ?_ _ | refine blk_drew ?_ | refine blk_alloc ?_ _)); exact BK333.1⟩, ⟨hq2_ HB.1 GE327.1 GE333.1⟩⟩
       case round =>
        clear H'; obtain ⟨x10_2, x11_2, x12_2, x13_2, x334000_2, u334000, rfl, rfl, rfl, rfl, HA, HK2, HO_334000, BK327, BK333, HB⟩ := hrel
        cases gk with
        | zero => exact absurd HA.1 (by simp [taquinref25_Unrank.l0])
        | succ k2 =>
         have H := HA.1; clear HA; simp only [taquinref25_Unrank.l0] at H
         by_cases c23 : x13_2 < a0
         ·rw [if_pos c23] at H; have c23b0 : decide (x13_2 < a0) = true := decide_eq_true c23; clear c23
          by_cases c24 : x13_2 = (wrap64 (Int.tdiv a2 t329))
          ·rw [if_pos c24] at H; have c24b0 : (x13_2 == (wrap64 (Int.tdiv a2 t329))) = true := beq_iff_eq.mpr c24; have c24b1 : (x13_2 != (wrap64 (Int.tdiv a2 t329))) = false := bne_eq_false_iff_eq.mpr c24; clear c24
           by_cases c25 : 0 ≤ x13_2
           ·rw [if_pos c25] at H; have c25b0 : decide (0 ≤ x13_2) = true := decide_eq_true c25; clear c25
            by_cases c26 : x13_2 < (x334000_2.length : Int)
            ·rw [if_pos c26] at H; have c26b0 : decide (x13_2 < (x334000_2.length : Int)) = true := decide_eq_true c26; clear c26; obtain ⟨y334, hy334⟩ : ∃ y_ : List Bool, y_ = (x334000_2.set (x13_2 : Int).toNat true) := ⟨_, rfl⟩
             replace H : (taquinref25_Unrank.l0 k2 a0 x10_2 x11_2 x12_2 (wrap64 (x13_2 + 1)) y334 (wrap64 (Int.tdiv a2 t329))) = some (r1, r2, r3) := by first | (rw [hy334]; with_reducible exact H) | (have H2_ := (Option.bind_some _ _).symm.trans H; rw [hy334]; with_reducible exact H2_) | (have H2_ := (Option.bind_some _ _).symm.trans H; with_reducible exact H2_) | with_reducible exact H | (rw [hy334]; exact H) | exact H
             have Ny334 := ak hy334; clear hy334; have H' := ak H; clear H; have hnb28 := NB333_327.1; have hnc28 := NB327_333.1; have hcz29_0 : wr.cell? ⟨gb333, 0, none⟩ = some (u334000) := (blk_cell BK333.1 0).trans rfl; have hcz29_1 : wr.cell? ⟨gb333, 1, none⟩ = some (.int .i64 (wrap64 (Int.tdiv a2 t329))) := (blk_cell BK333.1 1).trans rfl; have hfz29_0 := blk_frozen BK333.1 0; have hfz29_1 := blk_frozen BK333.1 1; have p27 : 0 ≤ (x13_2 : Int) := of_decide_eq_true (by assumption); have q27 : (x13_2 : Int) < ((x334000_2.length : Int) : Int) := of_decide_eq_true (by assumption); obtain ⟨go27, co27, eo27, gb27, gl27, cl27, HG27⟩ := Kd.R_form HO_334000.1 (by omega); (first | cases eo27 | (injection eo27 with ea_ en_ ec_; (first | subst ea_ | (injection ea_ with ea_; subst ea_)); subst ec_; clear en_)); have GB27 := ak gb27; have GG27 := ak HG27; clear gb27 gl27 HG27; obtain ⟨hx27_0, hf27_0⟩ := Kd.R_celln false HO_334000.1 (x13_2 : Int) p27 q27; replace p27 := eq_true p27; replace q27 := eq_true q27; have HP30 := Kd.R_putg HO_334000.1 (x13_2 : Int) true
             go_wp2_with (first | ((with_reducible refine gate_store (t := 4) (p := 55) rfl ?_); refine store_event (t := 4) (p := 55) (v := ?vo_w31) (w1 := (wr.setCell ⟨go27, (x13_2 : Int).toNat, none⟩ (.bool true))) ?hg ?ho ?hn ?hr ?_; (case ho => rfl); (case hg => rfl); (case hn => rfl); (case hr => first | (go_simp; done) | (go_simp; rfl)); intro w31 hw; have hg : wr.grownBy w31 (some go27) := (by rw [hw]; exact HP30.2); have hp_ : Kd.R Kd.bool 4 w31 w.heap.size (fun _ => True) (.slice (some ⟨go27, 0, none⟩) x334000_2.length co27) y334 := (by rw [hw, Ny334.1]; exact HP30.1); clear HP30; have n0_ := ak (hp_); have n1_ := ak (blk_grown BK327.1 hg (Kd.R_ne HO_334000.1 BK327.1 (by decide))); have n2_ := ak (blk_grown BK333.1 hg (Kd.R_ne HO_334000.1 BK333.1 (by decide))); have n3_ := ak ((by rw [hw]; exact below_set (HB.1) GB27.1 : Below w.heap.size w w31)); clear HO_334000 BK327 BK333 HB; have HO_334000 := n0_; have BK327 := n1_; have BK333 := n2_; have HB := n3_; clear n0_ n1_ n2_ n3_; clear hg hw hp_))
             go_roundg k2
             case measure => have := HJ3.1; have := HK2.1; omega
             case rel => exact ⟨(x10_2), (x11_2), (x12_2), (wrap64 (x13_2 + 1)), (y334), (.slice (some ⟨go27, 0, none⟩) x334000_2.length co27), (rs_), (rs_), (rs_), (rs_), H', ⟨by have := HJ3.1; have := HK2.1; omega⟩, ⟨by (with_reducible repeat (first | apply Kd.R_alloc | apply Kd.R_drewN | apply Kd.R_drew)); exact HO_334000.1⟩, ⟨by (with_reducible repeat (first | refine blk_drewN ?_ _ | refine blk_drew ?_ | refine blk_alloc ?_ _)); exact BK327.1⟩, ⟨by (with_reducible repeat (first | refine blk_drewN ?_ _ | refine blk_drew ?_ | refine blk_alloc ?_ _)); exact BK333.1⟩, ⟨hq2_ HB.1 GE327.1 GE333.1⟩⟩
            ·rw [if_neg c26] at H; exact absurd H (by simp)
           ·rw [if_neg c25] at H; exact absurd H (by simp)
          ·rw [if_neg c24] at H; have c24b0 : (x13_2 == (wrap64 (Int.tdiv a2 t329))) = false := beq_eq_false_iff_ne.mpr c24; have c24b1 : (x13_2 != (wrap64 (Int.tdiv a2 t329))) = true := bne_iff_ne.mpr c24; replace H := Option.bind_eq_some_iff.mp H; obtain ⟨t335, A320, H⟩ := H
           replace H : (if x10_2 < t335 then (if 0 ≤ x13_2 then (if x13_2 < (x334000_2.length : Int) then (taquinref25_Unrank.l0 k2 a0 x10_2 (wrap64 (x11_2 - 1)) (wrap64 (x12_2 - 1)) (wrap64 (x13_2 + 1)) (x334000_2.set (x13_2 : Int).toNat true) (wrap64 (Int.tdiv a2 t329))) else (none)) else (none)) else (taquinref25_Unrank.l0 k2 a0 (wrap64 (x10_2 - t335)) x11_2 (wrap64 (x12_2 - 1)) (wrap64 (x13_2 + 1)) x334000_2 (wrap64 (Int.tdiv a2 t329)))) = some (r1, r2, r3) := H
           have A32 := ak A320; clear A320
           by_cases c33 : x10_2 < t335
           ·rw [if_pos c33] at H; have c33b0 : decide (x10_2 < t335) = true := decide_eq_true c33; clear c33
            by_cases c34 : 0 ≤ x13_2
            ·rw [if_pos c34] at H; have c34b0 : decide (0 ≤ x13_2) = true := decide_eq_true c34; clear c34
             by_cases c35 : x13_2 < (x334000_2.length : Int)
             ·rw [if_pos c35] at H; have c35b0 : decide (x13_2 < (x334000_2.length : Int)) = true := decide_eq_true c35; clear c35; obtain ⟨y336, hy336⟩ : ∃ y_ : List Bool, y_ = (x334000_2.set (x13_2 : Int).toNat true) := ⟨_, rfl⟩
              replace H : (taquinref25_Unrank.l0 k2 a0 x10_2 (wrap64 (x11_2 - 1)) (wrap64 (x12_2 - 1)) (wrap64 (x13_2 + 1)) y336 (wrap64 (Int.tdiv a2 t329))) = some (r1, r2, r3) := by first | (rw [hy336]; with_reducible exact H) | (have H2_ := (Option.bind_some _ _).symm.trans H; rw [hy336]; with_reducible exact H2_) | (have H2_ := (Option.bind_some _ _).symm.trans H; with_reducible exact H2_) | with_reducible exact H | (rw [hy336]; exact H) | exact H
              have Ny336 := ak hy336; clear hy336; have H' := ak H; clear H; have hnb37 := NB333_327.1; have hnc37 := NB327_333.1; have hcz38_0 : wr.cell? ⟨gb333, 0, none⟩ = some (u334000) := (blk_cell BK333.1 0).trans rfl; have hcz38_1 : wr.cell? ⟨gb333, 1, none⟩ = some (.int .i64 (wrap64 (Int.tdiv a2 t329))) := (blk_cell BK333.1 1).trans rfl; have hfz38_0 := blk_frozen BK333.1 0; have hfz38_1 := blk_frozen BK333.1 1
              go_wp2_with (first | ((with_reducible refine gate_callee (f := 76) rfl ?_); refine goesL_ (some 61) rfl rfl Try.func76 (by kernel_rfl) rfl #[.int .i64 (wrap64 (x12_2 - 1)), .int .i64 (wrap64 (x11_2 - 1))] rfl (sm_) ?_; (with_reducible refine (taquinref25_Choose.calls k2 (wrap64 (x12_2 - 1)) (wrap64 (x11_2 - 1)) t335 _ A32.1).mono ?_); rintro e w' ⟨rfl, ⟨nd, rfl⟩⟩; refine ⟨_, rfl, ?_⟩; (try (rw [drewN_self wr]; generalize hq_ : World.drewN wr _ = wr; have n0_ : Aside0 (Kd.R Kd.bool 4 wr w.heap.size (fun _ => True) u334000 x334000_2) := ⟨by rw [← hq_]; exact (rq_ HO_334000.1)⟩; have n1_ : Aside0 (wr.heap[gb327]? = some (.cells #[.slice none 0 0, .int .i64 0] 27 (0, 0))) := ⟨by rw [← hq_]; exact (bq_ BK327.1)⟩; have n2_ : Aside0 (wr.heap[gb333]? = some (.cells #[u334000, .int .i64 (wrap64 (Int.tdiv a2 t329))] 27 (0, 0))) := ⟨by rw [← hq_]; exact (bq_ BK333.1)⟩; have n3_ : Aside0 (Below w.heap.size w wr) := ⟨by rw [← hq_]; exact (hq2_ HB.1 GE327.1 GE333.1)⟩; clear HO_334000 BK327 BK333 HB hq_; have HO_334000 := n0_; have BK327 := n1_; have BK333 := n2_; have HB := n3_; clear n0_ n1_ n2_ n3_)); have p36 : 0 ≤ (x13_2 : Int) := of_decide_eq_true (by assumption); have q36 : (x13_2 : Int) < ((x334000_2.length : Int) : Int) := of_decide_eq_true (by assumption); obtain ⟨go36, co36, eo36, gb36, gl36, cl36, HG36⟩ := Kd.R_form HO_334000.1 (by omega); (first | cases eo36 | (injection eo36 with ea_ en_ ec_; (first | subst ea_ | (injection ea_ with ea_; subst ea_)); subst ec_; clear en_)); have GB36 := ak gb36; have GG36 := ak HG36; clear gb36 gl36 HG36; obtain ⟨hx36_0, hf36_0⟩ := Kd.R_celln false HO_334000.1 (x13_2 : Int) p36 q36; replace p36 := eq_true p36; replace q36 := eq_true q36; obtain ⟨hy39_, hz39_⟩ := Kd.R_celln false HO_334000.1 (x13_2 : Int) (of_decide_eq_true (by assumption)) (of_decide_eq_true (by assumption)); have HP39 := Kd.R_putg HO_334000.1 (x13_2 : Int) true; have hcz38_0 : wr.cell? ⟨gb333, 0, none⟩ = some (.slice (some ⟨go36, 0, none⟩) x334000_2.length co36) := (blk_cell BK333.1 0).trans rfl; have hcz38_1 : wr.cell? ⟨gb333, 1, none⟩ = some (.int .i64 (wrap64 (Int.tdiv a2 t329))) := (blk_cell BK333.1 1).trans rfl; have hfz38_0 := blk_frozen BK333.1 0; have hfz38_1 := blk_frozen BK333.1 1) | ((with_reducible refine gate_store (t := 4) (p := 68) rfl ?_); refine store_event (t := 4) (p := 68) (v := ?vo_w40) (w1 := (wr.setCell ⟨go36, (x13_2 : Int).toNat, none⟩ (.bool true))) ?hg ?ho ?hn ?hr ?_; (case ho => rfl); (case hg => rfl); (case hn => rfl); (case hr => first | (go_simp; done) | (go_simp; rfl)); intro w40 hw; have hg : wr.grownBy w40 (some go36) := (by rw [hw]; exact HP39.2); have hp_ : Kd.R Kd.bool 4 w40 w.heap.size (fun _ => True) (.slice (some ⟨go36, 0, none⟩) x334000_2.length co36) y336 := (by rw [hw, Ny336.1]; exact HP39.1); clear HP39; have n0_ := ak (hp_); have n1_ := ak (blk_grown (g := gb327) (o := .cells #[.slice none 0 0, .int .i64 0] 27 (0, 0)) (bq_ BK327.1) hg (Kd.R_ne HO_334000.1 BK327.1 (by decide))); have n2_ := ak (blk_grown (g := gb333) (o := .cells #[.slice (some ⟨go36, 0, none⟩) x334000_2.length co36, .int .i64 (wrap64 (Int.tdiv a2 t329))] 27 (0, 0)) (bq_ BK333.1) hg (Kd.R_ne HO_334000.1 BK333.1 (by decide))); have n3_ := ak ((by rw [hw]; exact below_set (HB.1) GB36.1 : Below w.heap.size w w40)); clear HO_334000; clear BK327; clear BK333; clear HB; have HO_334000 := n0_; have BK327 := n1_; have BK333 := n2_; have HB := n3_; clear n0_ n1_ n2_ n3_; clear hg hw hp_))
              go_roundg k2
              case measure => have := HJ3.1; have := HK2.1; omega
              case rel => exact ⟨(x10_2), (wrap64 (x11_2 - 1)), (wrap64 (x12_2 - 1)), (wrap64 (x13_2 + 1)), (y336), (.slice (some ⟨go36, 0, none⟩) x334000_2.length co36), (by first | rfl | (simp; done) | (simp [*]; done)), (by first | rfl | (simp; done) | (simp [*]; done)), (by first | rfl | (simp; done) | (simp [*]; done)), (by first | rfl | (simp; done) | (simp [*]; done)), H', ⟨by have := HJ3.1; have := HK2.1; omega⟩, ⟨by (with_reducible repeat (first | apply Kd.R_alloc | apply Kd.R_drewN | apply Kd.R_drew)); exact HO_334000.1⟩, ⟨by (with_reducible repeat (first | refine blk_drewN ?_ _ | refine blk_drew ?_ | refine blk_alloc ?_ _)); exact BK327.1⟩, ⟨by (with_reducible repeat (first | refine blk_drewN ?_ _ | refine blk_drew ?_ | refine blk_alloc ?_ _)); exact BK333.1⟩, ⟨hq2_ HB.1 GE327.1 GE333.1⟩⟩
             ·rw [if_neg c35] at H; exact absurd H (by simp)
            ·rw [if_neg c34] at H; exact absurd H (by simp)
           ·rw [if_neg c33] at H; have c33b0 : decide (x10_2 < t335) = false := decide_eq_false c33; clear c33; have H' := ak H; clear H; have hnb41 := NB333_327.1; have hnc41 := NB327_333.1; have hcz42_0 : wr.cell? ⟨gb333, 0, none⟩ = some (u334000) := (blk_cell BK333.1 0).trans rfl; have hcz42_1 : wr.cell? ⟨gb333, 1, none⟩ = some (.int .i64 (wrap64 (Int.tdiv a2 t329))) := (blk_cell BK333.1 1).trans rfl; have hfz42_0 := blk_frozen BK333.1 0; have hfz42_1 := blk_frozen BK333.1 1
            go_wp2_with (first | ((with_reducible refine gate_callee (f := 76) rfl ?_); refine goesL_ (some 61) rfl rfl Try.func76 (by kernel_rfl) rfl #[.int .i64 (wrap64 (x12_2 - 1)), .int .i64 (wrap64 (x11_2 - 1))] rfl (sm_) ?_; (with_reducible refine (taquinref25_Choose.calls k2 (wrap64 (x12_2 - 1)) (wrap64 (x11_2 - 1)) t335 _ A32.1).mono ?_); rintro e w' ⟨rfl, ⟨nd, rfl⟩⟩; refine ⟨_, rfl, ?_⟩))
            go_roundg k2
            case measure => have := HJ3.1; have := HK2.1; omega
            case rel => exact ⟨(wrap64 (x10_2 - t335)), (x11_2), (wrap64 (x12_2 - 1)), (wrap64 (x13_2 + 1)), (x334000_2), (u334000), (rs_), (rs_), (rs_), (rs_), H', ⟨by have := HJ3.1; have := HK2.1; omega⟩, ⟨by (with_reducible repeat (first | apply Kd.R_alloc | apply Kd.R_drewN | apply Kd.R_drew)); exact HO_334000.1⟩, ⟨by (with_reducible repeat (first | refine blk_drewN ?_ _ | refine blk_drew ?_ | refine blk_alloc ?_ _)); exact BK327.1⟩, ⟨by (with_reducible repeat (first | refine blk_drewN ?_ _ | refine blk_drew ?_ | refine blk_alloc ?_ _)); exact BK333.1⟩, ⟨hq2_ HB.1 GE327.1 GE333.1⟩⟩
         ·rw [if_neg c23] at H; have c23b0 : decide (x13_2 < a0) = false := decide_eq_false c23; clear c23; simp only [Option.some.injEq, Prod.mk.injEq] at H; obtain ⟨rfl, rfl, rfl⟩ := H; have hnb43 := NB333_327.1; have hnc43 := NB327_333.1; have hcz44_0 : wr.cell? ⟨gb333, 0, none⟩ = some (u334000) := (blk_cell BK333.1 0).trans rfl; have hcz44_1 : wr.cell? ⟨gb333, 1, none⟩ = some (.int .i64 (wrap64 (Int.tdiv a2 t329))) := (blk_cell BK333.1 1).trans rfl; have hfz44_0 := blk_frozen BK333.1 0; have hfz44_1 := blk_frozen BK333.1 1; obtain ⟨Ao45, co45, eo45⟩ := Kd.R_slice HO_334000.1; subst eo45; have hcz46_0 : wr.cell? ⟨gb327, 0, none⟩ = some (.slice none 0 0) := (blk_cell BK327.1 0).trans rfl; have hcz46_1 : wr.cell? ⟨gb327, 1, none⟩ = some (.int .i64 0) := (blk_cell BK327.1 1).trans rfl; have hfz46_0 := blk_frozen BK327.1 0; have hfz46_1 := blk_frozen BK327.1 1
          go_wp2
          refine bodyPost_ret (results_ct rfl _ _ gb327 27 #[.slice Ao45 x334000_2.length co45, .int .i64 (wrap64 (Int.tdiv a2 t329))] (0, 0) _ rfl (by (with_reducible repeat (first | refine blk_drewN ?_ _ | refine blk_drew ?_ | refine blk_alloc ?_ _)); refine blk_put (cs := #[.slice Ao45 x334000_2.length co45, .int .i64 0]) ?_ 1 _ rfl; (with_reducible repeat (first | refine blk_drewN ?_ _ | refine blk_drew ?_ | refine blk_alloc ?_ _)); refine blk_put (cs := #[.slice none 0 0, .int .i64 0]) ?_ 0 _ rfl; (with_reducible repeat (first | refine blk_drewN ?_ _ | refine blk_drew ?_ | refine blk_alloc ?_ _)); exact BK327.1) Try.underlying27 rfl (by kernel_rfl)) rfl ?_; exact ⟨_, er_, by (with_reducible repeat (first | apply Kd.R_alloc | apply Kd.R_drewN | apply Kd.R_drew)); exact Kd.R_mono (Kd.R_far (p := ⟨gb327, 1, none⟩) (Kd.R_far (p := ⟨gb327, 0, none⟩) (Kd.R_types HO_334000.1 BK327.1 (by decide)) (fun _ hk => hk.2) (.slice Ao45 x334000_2.length co45)) (fun _ hk => hk.2) (.int .i64 (wrap64 (Int.tdiv a2 t329)))) (fun _ hk => trivial), hq2_ HB.1 GE327.1 GE333.1⟩
     ·rw [if_neg c12] at H; exact absurd H (by simp)
    ·rw [if_neg c11] at H; exact absurd H (by simp)
mutual
def taquinref25_between.l0 : Nat → List Int → Bool → List (S51) → Int → Int → Int → Int → List Int → List Int → List Bool → Int → Option ((List (S51)))
 | 0, _, _, _, _, _, _, _, _, _, _, _ => none
 | k + 1, x1, x3, x9, x10, x338000, x338001, x338002, x338003, x338004, x339000, x339001 => if x10 < (x1.length : Int) then (taquinref25_between.j1 k x1 x3 x9 x10 (decide (x10 < (x339000.length : Int))) x338000 x338001 x338002 x338003 x338004 x339000 x339001) else (taquinref25_between.j1 k x1 x3 x9 x10 false x338000 x338001 x338002 x338003 x338004 x339000 x339001)
def taquinref25_between.j1 : Nat → List Int → Bool → List (S51) → Int → Bool → Int → Int → Int → List Int → List Int → List Bool → Int → Option ((List (S51)))
 | 0, _, _, _, _, _, _, _, _, _, _, _, _ => none
 | k + 1, x1, x3, x9, x10, x22, x338000, x338001, x338002, x338003, x338004, x339000, x339001 => if x22 = true then (taquinref25_between.l1 k x1 x3 x9 x10 0 x338000 x338001 x338002 x338003 x338004 x339000 x339001) else (some x9)
def taquinref25_between.l1 : Nat → List Int → Bool → List (S51) → Int → Int → Int → Int → Int → List Int → List Int → List Bool → Int → Option ((List (S51)))
 | 0, _, _, _, _, _, _, _, _, _, _, _, _ => none
 | k + 1, x1, x3, x9, x10, x11, x338000, x338001, x338002, x338003, x338004, x339000, x339001 => if x11 < (x1.length : Int) then (taquinref25_between.j3 k x1 x3 x9 x10 x11 (decide (x11 < (x339000.length : Int))) x338000 x338001 x338002 x338003 x338004 x339000 x339001) else (taquinref25_between.j3 k x1 x3 x9 x10 x11 false x338000 x338001 x338002 x338003 x338004 x339000 x339001)
def taquinref25_between.j3 : Nat → List Int → Bool → List (S51) → Int → Int → Bool → Int → Int → Int → List Int → List Int → List Bool → Int → Option ((List (S51)))
 | 0, _, _, _, _, _, _, _, _, _, _, _, _, _ => none
 | k + 1, x1, x3, x9, x10, x11, x35, x338000, x338001, x338002, x338003, x338004, x339000, x339001 => if x35 = true then (if 0 ≤ x10 then (if x10 < (x339000.length : Int) then (if ((rdOf false x339000 x10) == x3) = true then (if 0 ≤ x11 then (if x11 < (x339000.length : Int) then (if ((rdOf false x339000 x11) != x3) = true then (if x10 < (x1.length : Int) then (if x11 < (x1.length : Int) then ((taquinref25_Gets.f k x338000 x338001 x338002 x338003 x338004 (rd x1 x10) (rd x1 x11)).bind fun t343 => (if t343 = true then (if x9.length < 8796093022208 then (taquinref25_between.l1 k x1 x3 (x9 ++ [(⟨x10, x11⟩ : S51)]) x10 (wrap64 (x11 + 1)) x338000 x338001 x338002 x338003 x338004 x339000 x339001) else (none)) else (taquinref25_between.l1 k x1 x3 x9 x10 (wrap64 (x11 + 1)) x338000 x338001 x338002 x338003 x338004 x339000 x339001))) else (none)) else (none)) else (taquinref25_between.l1 k x1 x3 x9 x10 (wrap64 (x11 + 1)) x338000 x338001 x338002 x338003 x338004 x339000 x339001)) else (none)) else (none)) else (taquinref25_between.l1 k x1 x3 x9 x10 (wrap64 (x11 + 1)) x338000 x338001 x338002 x338003 x338004 x339000 x339001)) else (none)) else (none)) else (taquinref25_between.l0 k x1 x3 x9 (wrap64 (x10 + 1)) x338000 x338001 x338002 x338003 x338004 x339000 x339001)
end
def taquinref25_between.f (k : Nat) (a0_0 : Int) (a0_1 : Int) (a0_2 : Int) (l0_3 : List Int) (l0_4 : List Int) (l1 : List Int) (l2_0 : List Bool) (a2_1 : Int) (a3 : Bool) : Option ((List (S51))) := taquinref25_between.l0 k l1 a3 ([] : List (S51)) 0 a0_0 a0_1 a0_2 l0_3 l0_4 l2_0 a2_1
def taquinref25_between.T8 : Bool × List (List Nat × List Nat) := (true, [([], []), ([0], [0]), ([], []), ([1, 2], [1, 2]), ([3], [3]), ([], []), ([4, 5], [4, 5]), ([6], [6]), ([7], [7]), ([8, 7], [7, 8]), ([7], [7]), ([9, 10, 7], [7, 9, 10]), ([11, 7], [7, 11]), ([7], [7]), ([12, 13, 7], [7, 12, 13]), ([7, 14], [7, 14]), ([15, 7], [15]), ([16], [16]), ([16], [16]), ([16], [16]), ([18, 19, 16], [16, 18, 19]), ([20, 16], [16, 20]), ([16], [16]), ([16], [16]), ([22, 23, 16], [16, 22, 23]), ([24, 16], [16, 24]), ([17, 21, 25, 16, 16], [16, 17, 21, 25]), ([16, 26], [16, 26])])
def taquinref25_between.B8 : List Nat := [0, 1, 0, 7, 15, 0, 63, 127, 255, 511, 255, 2047, 4095, 255, 16383, 32767, 65535, 131071, 131071, 131071, 917503, 1966079, 131071, 131071, 12713983, 29491199, 67108863, 134217727]
theorem taquinref25_between.tab8 : rtab .any (opsOf Try.f83 8) = taquinref25_between.T8 := by kernel_rfl
theorem taquinref25_between.bits8 : waitsOk taquinref25_between.T8.2 taquinref25_between.B8 = true := by kernel_rfl
set_option maxHeartbeats 8000000 in
set_option maxRecDepth 100000 in
theorem taquinref25_between.calls (k : Nat) (a0_0 : Int) (a0_1 : Int) (a0_2 : Int) (A0_3 : Option Addr) (c0_3 : Nat) (l0_3 : List Int) (A0_4 : Option Addr) (c0_4 : Nat) (l0_4 : List Int) (A1 : Option Addr) (c1 : Nat) (l1 : List Int) (A2_0 : Option Addr) (c2_0 : Nat) (l2_0 : List Bool) (a2_1 : Int) (a3 : Bool) (r : List (S51)) (w : World) (hr0_3 : Kd.C (Kd.int .i64) w A0_3 l0_3.length l0_3) (hc0_3 : l0_3.length ≤ c0_3) (hr0_4 : Kd.C (Kd.int .i64) w A0_4 l0_4.length l0_4) (hc0_4 : l0_4.length ≤ c0_4) (hr1 : Kd.C (Kd.int .i64) w A1 l1.length l1) (hc1 : l1.length ≤ c1) (hr2_0 : Kd.C Kd.bool w A2_0 l2_0.length l2_0) (hc2_0 : l2_0.length ≤ c2_0) (h : taquinref25_between.f k a0_0 a0_1 a0_2 l0_3 l0_4 l1 l2_0 a2_1 a3 = some r) :
  Calls Try.prog 83 #[.agg #[.int .i64 a0_0, .int .i64 a0_1, .int .i64 a0_2, .slice A0_3 l0_3.length c0_3, .slice A0_4 l0_4.length c0_4], .slice A1 l1.length c1, .agg #[.slice A2_0 l2_0.length c2_0, .int .i64 a2_1], .bool a3] w fun e w' => ∃ v0_ : Value, e = .returned (v0_) ∧ Kd.R k51 51 w' w.heap.size (fun _ => True) v0_ r ∧ Below w.heap.size w w' := by
 have hu24 := Try.underlying24; have hu27 := Try.underlying27; have hu51 := Try.underlying51; have HR0_3 := ak hr0_3; have HC0_3 := ak hc0_3; clear hr0_3 hc0_3; have HR0_4 := ak hr0_4; have HC0_4 := ak hc0_4; clear hr0_4 hc0_4; have HR1 := ak hr1; have HC1 := ak hc1; clear hr1 hc1; have HR2_0 := ak hr2_0; have HC2_0 := ak hc2_0; clear hr2_0 hc2_0; have HB := ak (Below.refl w.heap.size w); have H : (taquinref25_between.l0 k l1 a3 ([] : List (S51)) 0 a0_0 a0_1 a0_2 l0_3 l0_4 l2_0 a2_1) = some r := h; clear h; have H' := ak H; clear H
 go_enter Try.func83, Try.ntmps83
 go_wp2_with (first | ((with_reducible refine gate_dst (N := 4) rfl ?_); (try (refine gate_guard (by rfl) ?_; dsimp only)); refine box_event ?hg (N := 4) ?hd (cs := #[.int .i64 a0_0, .int .i64 a0_1, .int .i64 a0_2, .slice A0_3 l0_3.length c0_3, .slice A0_4 l0_4.length c0_4]) (t := 24) ?hr ?_; (case hd => rfl); (case hg => rfl); (case hr => first | (go_simp; done) | (go_simp; rfl)); intro gb337 hg w5 hbox hb; have BK337 := ak (hbox); have GW337 := gw_ hg HB.1.size; have GE337 := gw_ hg HB.1.size; replace HB := ak (below_step HB.1 hb); clear hb hbox hg) | ((with_reducible refine gate_dst (N := 6) rfl ?_); (try (refine gate_guard (by rfl) ?_; dsimp only)); refine box_event ?hg (N := 6) ?hd (cs := #[.slice A2_0 l2_0.length c2_0, .int .i64 a2_1]) (t := 27) ?hr ?_; (case hd => rfl); (case hg => rfl); (case hr => first | (go_simp; done) | (go_simp; rfl)); intro gb338 hg w6 hbox hb; have n0_ := ak (blk_below BK337.1 hb); have n1_ := ak (below_step HB.1 hb); have n2_ := ak (hbox); have n3_ := gw_ hg HB.1.size; have n4_ := gw_ hg HB.1.size; have n5_ := ak ((by rw [hg]; exact Nat.ne_of_lt (blk_lt BK337.1) : gb337 ≠ gb338)); have n6_ := ak ((by rw [hg]; exact Nat.ne_of_gt (blk_lt BK337.1) : gb338 ≠ gb337)); clear BK337 HB; have BK337 := n0_; have HB := n1_; have BK338 := n2_; have GW338 := n3_; have GE338 := n4_; have NB337_338 := n5_; have NB338_337 := n6_; clear n0_ n1_ n2_ n3_ n4_ n5_ n6_; clear hb hbox hg))
 go_loopg [9, 10] k (fun kq v9 v10 w' => ∃ (x9_1 : List (S51)) (x10_1 : Int), v10 = .int .i64 x10_1 ∧ Aside0 (taquinref25_between.l0 kq l1 a3 x9_1 x10_1 a0_0 a0_1 a0_2 l0_3 l0_4 l2_0 a2_1 = some r) ∧ Aside0 (kq ≤ k) ∧ Aside0 (Kd.R k51 51 w' w.heap.size (fun _ => True) v9 x9_1) ∧ Aside0 (w'.heap[gb337]? = some (.cells #[.int .i64 a0_0, .int .i64 a0_1, .int .i64 a0_2, (.slice A0_3 l0_3.length c0_3), (.slice A0_4 l0_4.length c0_4)] 24 (0, 0))) ∧ Aside0 (w'.heap[gb338]? = some (.cells #[(.slice A2_0 l2_0.length c2_0), .int .i64 a2_1] 27 (0, 0))) ∧ Aside0 (Below w.heap.size w w'))
 case atStart => exact ⟨(([] : List (S51))), (0), (rs_), H', ⟨Nat.le_refl _⟩, ⟨by first | exact Kd.R_nil _ _ _ _ _ | exact Kd.N_nil _ _ _ _ _ | exact Kd.V_nil _ _ _ _ _ | exact Kd.Q_nil _ _ _ _ _ | exact Kd.S_nil _ _ _ _ _⟩, ⟨by (with_reducible repeat (first | refine blk_drewN ?_ _ | refine blk_drew ?_ | refine blk_alloc ?_ _)); exact BK337.1⟩, ⟨by (with_reducible repeat (first | refine blk_drewN ?_ _ | refine blk_drew ?_ | refine blk_alloc ?_ _)); exact BK338.1⟩, ⟨hq2_ HB.1 GE337.1 GE338.1⟩⟩
 case round =>
  clear H'; obtain ⟨x9_1, x10_1, rfl, HA, HK1, HO_9, BK337, BK338, HB⟩ := hrel
  cases gk with
  | zero => exact absurd HA.1 (by simp [taquinref25_between.l0])
  | succ k1 =>
   have H := HA.1; clear HA; simp only [taquinref25_between.l0] at H; have HC7 := ak H; clear H
   go_upto_region 3 with (fail)
   go_cut [22] (fun v22 wc => ∃ (kq : Nat) (x22_6 : Bool), v22 = .bool x22_6 ∧ Aside0 (taquinref25_between.j1 kq l1 a3 x9_1 x10_1 x22_6 a0_0 a0_1 a0_2 l0_3 l0_4 l2_0 a2_1 = some r) ∧ Aside0 (kq ≤ k1) ∧ Aside0 (Kd.R k51 51 wc w.heap.size (fun _ => True) u9 x9_1) ∧ Aside0 (wc.heap[gb337]? = some (.cells #[.int .i64 a0_0, .int .i64 a0_1, .int .i64 a0_2, (.slice A0_3 l0_3.length c0_3), (.slice A0_4 l0_4.length c0_4)] 24 (0, 0))) ∧ Aside0 (wc.heap[gb338]? = some (.cells #[(.slice A2_0 l2_0.length c2_0), .int .i64 a2_1] 27 (0, 0))) ∧ Aside0 (Below w.heap.size w wc))
   case first =>
    have H := HC7.1; clear HC7
    by_cases c8 : x10_1 < (l1.length : Int)
    ·rw [if_pos c8] at H; have c8b0 : decide (x10_1 < (l1.length : Int)) = true := decide_eq_true c8; clear c8; (first | rw [c8b0] | (simp only [i64_w, i32_w]; rw [c8b0]) | skip); have H' := ak H; clear H; have hnb9 := NB338_337.1; have hnc9 := NB337_338.1; have hcz10_0 : wr.cell? ⟨gb338, 0, none⟩ = some (.slice A2_0 l2_0.length c2_0) := (blk_cell BK338.1 0).trans rfl; have hcz10_1 : wr.cell? ⟨gb338, 1, none⟩ = some (.int .i64 a2_1) := (blk_cell BK338.1 1).trans rfl; have hfz10_0 := blk_frozen BK338.1 0; have hfz10_1 := blk_frozen BK338.1 1
     go_wp2
     go_meet
     case rel => exact ⟨_, (decide (x10_1 < (l2_0.length : Int))), (rs_), H', ⟨by have := HK1.1; first | omega | exact Nat.le_refl _⟩, ⟨by (with_reducible repeat (first | apply Kd.R_alloc | apply Kd.R_drewN | apply Kd.R_drew)); exact HO_9.1⟩, ⟨by (with_reducible repeat (first | refine blk_drewN ?_ _ | refine blk_drew ?_ | refine blk_alloc ?_ _)); exact BK337.1⟩, ⟨by (with_reducible repeat (first | refine blk_drewN ?_ _ | refine blk_drew ?_ | refine blk_alloc ?_ _)); exact BK338.1⟩, ⟨hq2_ HB.1 GE337.1 GE338.1⟩⟩
    ·rw [if_neg c8] at H; have c8b0 : decide (x10_1 < (l1.length : Int)) = false := decide_eq_false c8; clear c8; (first | rw [c8b0] | (simp only [i64_w, i32_w]; rw [c8b0]) | skip); have H' := ak H; clear H
     go_wp2
     go_meet
     case rel => exact ⟨_, (false), (rs_), H', ⟨by have := HK1.1; first | omega | exact Nat.le_refl _⟩, ⟨by (with_reducible repeat (first | apply Kd.R_alloc | apply Kd.R_drewN | apply Kd.R_drew)); exact HO_9.1⟩, ⟨by (with_reducible repeat (first | refine blk_drewN ?_ _ | refine blk_drew ?_ | refine blk_alloc ?_ _)); exact BK337.1⟩, ⟨by (with_reducible repeat (first | refine blk_drewN ?_ _ | refine blk_drew ?_ | refine blk_alloc ?_ _)); exact BK338.1⟩, ⟨hq2_ HB.1 GE337.1 GE338.1⟩⟩
   case rest =>
    clear HC7; obtain ⟨kq, x22_6, rfl, HA, HJ6, HO_9, BK337, BK338, HB⟩ := hcut
    cases kq with
    | zero => exact absurd HA.1 (by simp [taquinref25_between.j1])
    | succ kj6 =>
     have H := HA.1; clear HA; simp only [taquinref25_between.j1] at H
     by_cases c11 : x22_6 = true
     ·subst c11
      have H1 : (taquinref25_between.l1 kj6 l1 a3 x9_1 x10_1 0 a0_0 a0_1 a0_2 l0_3 l0_4 l2_0 a2_1) = some r := by rw [if_pos rfl] at H; exact H
      clear H; have H := H1; clear H1; have H' := ak H; clear H
      go_wp2
      go_loopg [9, 11] kj6 (fun kq v9 v11 w' => ∃ (x9_3 : List (S51)) (x11_3 : Int), v11 = .int .i64 x11_3 ∧ Aside0 (taquinref25_between.l1 kq l1 a3 x9_3 x10_1 x11_3 a0_0 a0_1 a0_2 l0_3 l0_4 l2_0 a2_1 = some r) ∧ Aside0 (kq ≤ kj6) ∧ Aside0 (Kd.R k51 51 w' w.heap.size (fun _ => True) v9 x9_3) ∧ Aside0 (w'.heap[gb337]? = some (.cells #[.int .i64 a0_0, .int .i64 a0_1, .int .i64 a0_2, (.slice A0_3 l0_3.length c0_3), (.slice A0_4 l0_4.length c0_4)] 24 (0, 0))) ∧ Aside0 (w'.heap[gb338]? = some (.cells #[(.slice A2_0 l2_0.length c2_0), .int .i64 a2_1] 27 (0, 0))) ∧ Aside0 (Below w.heap.size w w'))
      case atStart => exact ⟨(x9_1), (0), (rs_), H', ⟨Nat.le_refl _⟩, ⟨by (with_reducible repeat (first | apply Kd.R_alloc | apply Kd.R_drewN | apply Kd.R_drew)); exact HO_9.1⟩, ⟨by (with_reducible repeat (first | refine blk_drewN ?_ _ | refine blk_drew ?_ | refine blk_alloc ?_ _)); exact BK337.1⟩, ⟨by (with_reducible repeat (first | refine blk_drewN ?_ _ | refine blk_drew ?_ | refine blk_alloc ?_ _)); exact BK338.1⟩, ⟨hq2_ HB.1 GE337.1 GE338.1⟩⟩
      case round =>
       clear H'; obtain ⟨x9_3, x11_3, rfl, HA, HK3, HO_9, BK337, BK338, HB⟩ := hrel
       cases gk with
       | zero => exact absurd HA.1 (by simp [taquinref25_between.l1])
       | succ k3 =>
        have H := HA.1; clear HA; simp only [taquinref25_between.l1] at H; have HC12 := ak H; clear H
        go_upto_region 6 with (fail)
        go_cut [35] (fun v35 wc => ∃ (kq : Nat) (x35_11 : Bool), v35 = .bool x35_11 ∧ Aside0 (taquinref25_between.j3 kq l1 a3 x9_3 x10_1 x11_3 x35_11 a0_0 a0_1 a0_2 l0_3 l0_4 l2_0 a2_1 = some r) ∧ Aside0 (kq ≤ k3) ∧ Aside0 (Kd.R k51 51 wc w.heap.size (fun _ => True) u9 x9_3) ∧ Aside0 (wc.heap[gb337]? = some (.cells #[.int .i64 a0_0, .int .i64 a0_1, .int .i64 a0_2, (.slice A0_3 l0_3.length c0_3), (.slice A0_4 l0_4.length c0_4)] 24 (0, 0))) ∧ Aside0 (wc.heap[gb338]? = some (.cells #[(.slice A2_0 l2_0.length c2_0), .int .i64 a2_1] 27 (0, 0))) ∧ Aside0 (Below w.heap.size w wc))
        case first =>
         have H := HC12.1; clear HC12
         by_cases c13 : x11_3 < (l1.length : Int)
         ·rw [if_pos c13] at H; have c13b0 : decide (x11_3 < (l1.length : Int)) = true := decide_eq_true c13; clear c13; (first | rw [c13b0] | (simp only [i64_w, i32_w]; rw [c13b0]) | skip); have H' := ak H; clear H; have hnb14 := NB338_337.1; have hnc14 := NB337_338.1; have hcz15_0 : wr.cell? ⟨gb338, 0, none⟩ = some (.slice A2_0 l2_0.length c2_0) := (blk_cell BK338.1 0).trans rfl; have hcz15_1 : wr.cell? ⟨gb338, 1, none⟩ = some (.int .i64 a2_1) := (blk_cell BK338.1 1).trans rfl; have hfz15_0 := blk_frozen BK338.1 0; have hfz15_1 := blk_frozen BK338.1 1
          go_wp2
          go_meet
          case rel => exact ⟨_, (decide (x11_3 < (l2_0.length : Int))), (rs_), H', ⟨by have := HK1.1; have := HJ6.1; have := HK3.1; first | omega | exact Nat.le_refl _⟩, ⟨by (with_reducible repeat (first | apply Kd.R_alloc | apply Kd.R_drewN | apply Kd.R_drew)); exact HO_9.1⟩, ⟨by (with_reducible repeat (first | refine blk_drewN ?_ _ | refine blk_drew ?_ | refine blk_alloc ?_ _)); exact BK337.1⟩, ⟨by (with_reducible repeat (first | refine blk_drewN ?_ _ | refine blk_drew ?_ | refine blk_alloc ?_ _)); exact BK338.1⟩, ⟨hq2_ HB.1 GE337.1 GE338.1⟩⟩
         ·rw [if_neg c13] at H; have c13b0 : decide (x11_3 < (l1.length : Int)) = false := decide_eq_false c13; clear c13; (first | rw [c13b0] | (simp only [i64_w, i32_w]; rw [c13b0]) | skip); have H' := ak H; clear H
          go_wp2
          go_meet
          case rel => exact ⟨_, (false), (rs_), H', ⟨by have := HK1.1; have := HJ6.1; have := HK3.1; first | omega | exact Nat.le_refl _⟩, ⟨by (with_reducible repeat (first | apply Kd.R_alloc | apply Kd.R_drewN | apply Kd.R_drew)); exact HO_9.1⟩, ⟨by (with_reducible repeat (first | refine blk_drewN ?_ _ | refine blk_drew ?_ | refine blk_alloc ?_ _)); exact BK337.1⟩, ⟨by (with_reducible repeat (first | refine blk_drewN ?_ _ | refine blk_drew ?_ | refine blk_alloc ?_ _)); exact BK338.1⟩, ⟨hq2_ HB.1 GE337.1 GE338.1⟩⟩
        case rest =>
         clear HC12; obtain ⟨kq, x35_11, rfl, HA, HJ11, HO_9, BK337, BK338, HB⟩ := hcut
         cases kq with
         | zero => exact absurd HA.1 (by simp [taquinref25_between.j3])
         | succ kj11 =>
          have H := HA.1; clear HA; simp only [taquinref25_between.j3] at H
          by_cases c16 : x35_11 = true
          ·subst c16
           have H1 : (if 0 ≤ x10_1 then (if x10_1 < (l2_0.length : Int) then (if ((rdOf false l2_0 x10_1) == a3) = true then (if 0 ≤ x11_3 then (if x11_3 < (l2_0.length : Int) then (if ((rdOf false l2_0 x11_3) != a3) = true then (if x10_1 < (l1.length : Int) then (if x11_3 < (l1.length : Int) then ((taquinref25_Gets.f kj11 a0_0 a0_1 a0_2 l0_3 l0_4 (rd l1 x10_1) (rd l1 x11_3)).bind fun t343 => (if t343 = true then (if x9_3.length < 8796093022208 then (taquinref25_between.l1 kj11 l1 a3 (x9_3 ++ [(⟨x10_1, x11_3⟩ : S51)]) x10_1 (wrap64 (x11_3 + 1)) a0_0 a0_1 a0_2 l0_3 l0_4 l2_0 a2_1) else (none)) else (taquinref25_between.l1 kj11 l1 a3 x9_3 x10_1 (wrap64 (x11_3 + 1)) a0_0 a0_1 a0_2 l0_3 l0_4 l2_0 a2_1))) else (none)) else (none)) else (taquinref25_between.l1 kj11 l1 a3 x9_3 x10_1 (wrap64 (x11_3 + 1)) a0_0 a0_1 a0_2 l0_3 l0_4 l2_0 a2_1)) else (none)) else (none)) else (taquinref25_between.l1 kj11 l1 a3 x9_3 x10_1 (wrap64 (x11_3 + 1)) a0_0 a0_1 a0_2 l0_3 l0_4 l2_0 a2_1)) else (none)) else (none)) = some r := by rw [if_pos rfl] at H; exact H
           clear H; have H := H1; clear H1
           by_cases c17 : 0 ≤ x10_1
           ·rw [if_pos c17] at H; have c17b0 : decide (0 ≤ x10_1) = true := decide_eq_true c17; clear c17
            by_cases c18 : x10_1 < (l2_0.length : Int)
            ·rw [if_pos c18] at H; have c18b0 : decide (x10_1 < (l2_0.length : Int)) = true := decide_eq_true c18; clear c18
             by_cases c19 : ((rdOf false l2_0 x10_1) == a3) = true
             ·rw [if_pos c19] at H; have c19b0 : ((rdOf false l2_0 x10_1) == a3) = true := c19; (try (have c19b1 : decide ((rdOf false l2_0 x10_1) = a3) = true := by simpa using c19)); (try (have c19b2 : ((rdOf false l2_0 x10_1) == a3) = true := by simpa using c19)); clear c19
              by_cases c20 : 0 ≤ x11_3
              ·rw [if_pos c20] at H; have c20b0 : decide (0 ≤ x11_3) = true := decide_eq_true c20; clear c20
               by_cases c21 : x11_3 < (l2_0.length : Int)
               ·rw [if_pos c21] at H; have c21b0 : decide (x11_3 < (l2_0.length : Int)) = true := decide_eq_true c21; clear c21
                by_cases c22 : ((rdOf false l2_0 x11_3) != a3) = true
                ·rw [if_pos c22] at H; have c22b0 : ((rdOf false l2_0 x11_3) != a3) = true := c22; (try (have c22b1 : decide ((rdOf false l2_0 x11_3) = a3) = false := by simpa using c22)); (try (have c22b2 : ((rdOf false l2_0 x11_3) == a3) = false := by simpa using c22)); (try (have c22b3 : ¬ ((rdOf false l2_0 x11_3) = a3) := by simpa using c22)); clear c22
                 by_cases c23 : x10_1 < (l1.length : Int)
                 ·rw [if_pos c23] at H; have c23b0 : decide (x10_1 < (l1.length : Int)) = true := decide_eq_true c23; clear c23
                  by_cases c24 : x11_3 < (l1.length : Int)
                  ·rw [if_pos c24] at H; have c24b0 : decide (x11_3 < (l1.length : Int)) = true := decide_eq_true c24; clear c24; replace H := Option.bind_eq_some_iff.mp H; obtain ⟨t343, A250, H⟩ := H
                   replace H : (if t343 = true then (if x9_3.length < 8796093022208 then (taquinref25_between.l1 kj11 l1 a3 (x9_3 ++ [(⟨x10_1, x11_3⟩ : S51)]) x10_1 (wrap64 (x11_3 + 1)) a0_0 a0_1 a0_2 l0_3 l0_4 l2_0 a2_1) else (none)) else (taquinref25_between.l1 kj11 l1 a3 x9_3 x10_1 (wrap64 (x11_3 + 1)) a0_0 a0_1 a0_2 l0_3 l0_4 l2_0 a2_1)) = some r := H
                   have A25 := ak A250; clear A250; have HH_ := ak H; clear H
                   try go_wp2
                   replace HO_9 := ak (Kd.R_drew HO_9.1); replace BK337 := ak (blk_drew BK337.1); replace BK338 := ak (blk_drew BK338.1); replace HB := ak (below_drew1 HB.1); have p339 : 0 ≤ (x10_1 : Int) := of_decide_eq_true (by assumption); have q339 : x10_1 < (l2_0.length : Int) := of_decide_eq_true (by assumption); obtain ⟨ad339, e339, hx339_0⟩ := Kd.at_bool HR2_0.1 x10_1 p339 q339; have hw339_0 := hx339_0
                   cases e339
                   replace hx339_0 := (HB.1.cell (World.block_lt_of_cell? w _ hx339_0)).trans hx339_0; replace p339 := eq_true p339; replace q339 := eq_true q339; have p340 : 0 ≤ (x11_3 : Int) := of_decide_eq_true (by assumption); have q340 : x11_3 < (l2_0.length : Int) := of_decide_eq_true (by assumption); obtain ⟨ad340, e340, hx340_0⟩ := Kd.at_bool HR2_0.1 x11_3 p340 q340; have hw340_0 := hx340_0; obtain rfl : ad339 = ad340 := (by injection e340); replace hx340_0 := (HB.1.cell (World.block_lt_of_cell? w _ hx340_0)).trans hx340_0; replace p340 := eq_true p340; replace q340 := eq_true q340; have p341 : 0 ≤ (x10_1 : Int) := of_decide_eq_true (by assumption); have q341 : x10_1 < (l1.length : Int) := of_decide_eq_true (by assumption); obtain ⟨ad341, e341, hx341_0⟩ := Kd.at_int HR1.1 x10_1 p341 q341; have hw341_0 := hx341_0
                   cases e341
                   replace hx341_0 := (HB.1.cell (World.block_lt_of_cell? w _ hx341_0)).trans hx341_0; replace p341 := eq_true p341; replace q341 := eq_true q341; have p342 : 0 ≤ (x11_3 : Int) := of_decide_eq_true (by assumption); have q342 : x11_3 < (l1.length : Int) := of_decide_eq_true (by assumption); obtain ⟨ad342, e342, hx342_0⟩ := Kd.at_int HR1.1 x11_3 p342 q342; have hw342_0 := hx342_0; obtain rfl : ad341 = ad342 := (by injection e342); replace hx342_0 := (HB.1.cell (World.block_lt_of_cell? w _ hx342_0)).trans hx342_0; replace p342 := eq_true p342; replace q342 := eq_true q342; refine start_ (n := 28) (S := fun w' => w'.cell? ⟨gb338, 0, none⟩ = some (.slice (some ad339) l2_0.length c2_0) ∧ w'.cell? ⟨gb338, 1, none⟩ = some (.int .i64 a2_1) ∧ w'.cell? ⟨gb337, 0, none⟩ = some (.int .i64 a0_0) ∧ w'.cell? ⟨gb337, 1, none⟩ = some (.int .i64 a0_1) ∧ w'.cell? ⟨gb337, 2, none⟩ = some (.int .i64 a0_2) ∧ w'.cell? ⟨gb337, 3, none⟩ = some (.slice A0_3 l0_3.length c0_3) ∧ w'.cell? ⟨gb337, 4, none⟩ = some (.slice A0_4 l0_4.length c0_4) ∧ w'.cell? (ad339.add (x10_1).toNat) = some (.bool (rdOf false l2_0 x10_1)) ∧ w'.cell? (ad339.add (x11_3).toNat) = some (.bool (rdOf false l2_0 x11_3)) ∧ w'.cell? (ad341.add (x10_1).toNat) = some (.int .i64 (rd l1 x10_1)) ∧ w'.cell? (ad341.add (x11_3).toNat) = some (.int .i64 (rd l1 x11_3))) (ds := []) (bl 28 0) (by kernel_rfl) rfl rfl ⟨(blk_cell BK338.1 0).trans rfl, (blk_cell BK338.1 1).trans rfl, (blk_cell BK337.1 0).trans rfl, (blk_cell BK337.1 1).trans rfl, (blk_cell BK337.1 2).trans rfl, (blk_cell BK337.1 3).trans rfl, (blk_cell BK337.1 4).trans rfl, ((HB.1.cell (World.block_lt_of_cell? w _ hw339_0)).trans hw339_0), ((HB.1.cell (World.block_lt_of_cell? w _ hw340_0)).trans hw340_0), ((HB.1.cell (World.block_lt_of_cell? w _ hw341_0)).trans hw341_0), ((HB.1.cell (World.block_lt_of_cell? w _ hw342_0)).trans hw342_0)⟩ (fun hHeld => ?_); refine with_tabW taquinref25_between.tab8 taquinref25_between.bits8 (fun HT_ HW_ => ?_); generalize wc.drew = w28 at HO_9 BK337 BK338 HB hx339_0 hx340_0 hx341_0 hx342_0 hHeld ⊢; refine pu_ 0 (some 38) (bl 28 1) HT_.1 ?_; refine pu_ 2 (some 40) (bl 28 5) HT_.1 ?_; refine pu_ 5 (some 43) (bl 28 37) HT_.1 ?_; refine tk_ 1 (some 39) (bl 28 39) (take_ofW HT_.1 HW_.1 (by kernel_rfl)) hHeld ?_; refine pu_ 3 (some 41) (bl 28 47) HT_.1 ?_; refine tk_ 4 (some 42) (bl 28 63) (take_ofW HT_.1 HW_.1 (by kernel_rfl)) hHeld ?_; refine pu_ 6 (some 44) (bl 28 127) HT_.1 ?_; refine pu_ 7 (some 45) (bl 28 255) HT_.1 ?_; refine pu_ 8 (some 46) (bl 28 511) HT_.1 ?_; refine pu_ 10 (some 48) (bl 28 1535) HT_.1 ?_; refine pu_ 13 (some 51) (bl 28 9727) HT_.1 ?_; refine tk_ 9 (some 47) (bl 28 10239) (take_ofW HT_.1 HW_.1 (by kernel_rfl)) hHeld ?_; refine pu_ 11 (some 49) (bl 28 12287) HT_.1 ?_; refine tk_ 12 (some 50) (bl 28 16383) (take_ofW HT_.1 HW_.1 (by kernel_rfl)) hHeld ?_; refine pu_ 14 (some 52) (bl 28 32767) HT_.1 ?_; refine pu_ 15 (some 53) (bl 28 65535) HT_.1 ?_; refine pu_ 16 (some 54) (bl 28 131071) HT_.1 ?_; refine pu_ 18 (some 56) (bl 28 393215) HT_.1 ?_; refine pu_ 19 (some 57) (bl 28 917503) HT_.1 ?_; refine pu_ 20 (some 58) (bl 28 1966079) HT_.1 ?_; refine pu_ 22 (some 60) (bl 28 6160383) HT_.1 ?_; refine pu_ 23 (some 61) (bl 28 14548991) HT_.1 ?_; refine pu_ 24 (some 62) (bl 28 31326207) HT_.1 ?_; refine tk_ 17 (some 55) (bl 28 31457279) (take_ofW HT_.1 HW_.1 (by kernel_rfl)) hHeld ?_; refine tk_ 21 (some 59) (bl 28 33554431) (take_ofW HT_.1 HW_.1 (by kernel_rfl)) hHeld ?_; refine tk_ 25 (some 63) (bl 28 67108863) (take_ofW HT_.1 HW_.1 (by kernel_rfl)) hHeld ?_; refine one_ (i := 26) (N := some 64) (bl 28 134217727) rfl rfl (one_of HT_.1 (by kernel_rfl)) (by decide) (fun K hK => ?_); refine goes_ Try.func67 (by kernel_rfl) rfl #[.agg #[.int .i64 a0_0, .int .i64 a0_1, .int .i64 a0_2, .slice A0_3 l0_3.length c0_3, .slice A0_4 l0_4.length c0_4], .int .i64 (rd l1 x10_1), .int .i64 (rd l1 x11_3)] (by rfl) rfl rfl (sm_) ?_
                   have H := HH_.1; clear HH_
                   by_cases c26 : t343 = true
                   ·subst c26
                    have H1 : (if x9_3.length < 8796093022208 then (taquinref25_between.l1 kj11 l1 a3 (x9_3 ++ [(⟨x10_1, x11_3⟩ : S51)]) x10_1 (wrap64 (x11_3 + 1)) a0_0 a0_1 a0_2 l0_3 l0_4 l2_0 a2_1) else (none)) = some r := by rw [if_pos rfl] at H; exact H
                    clear H; have H := H1; clear H1
                    by_cases c27 : x9_3.length < 8796093022208
                    ·rw [if_pos c27] at H; have LMc27 := ak c27; clear c27; obtain ⟨y344, hy344⟩ : ∃ y_ : List (S51), y_ = (x9_3 ++ [(⟨x10_1, x11_3⟩ : S51)]) := ⟨_, rfl⟩
                     replace H : (taquinref25_between.l1 kj11 l1 a3 y344 x10_1 (wrap64 (x11_3 + 1)) a0_0 a0_1 a0_2 l0_3 l0_4 l2_0 a2_1) = some r := by first | (rw [hy344]; with_reducible exact H) | (have H2_ := (Option.bind_some _ _).symm.trans H; rw [hy344]; with_reducible exact H2_) | (have H2_ := (Option.bind_some _ _).symm.trans H; with_reducible exact H2_) | with_reducible exact H | (rw [hy344]; exact H) | exact H
                     have Ny344 := ak hy344; clear hy344; have H' := ak H; clear H
                     with_reducible refine (taquinref25_Gets.calls kj11 a0_0 a0_1 a0_2 _ _ l0_3 _ _ l0_4 (rd l1 x10_1) (rd l1 x11_3) true _ ?side1 ?side2 ?side3 ?side4 A25.1).mono ?_
                     (case side1 => exact (Kd.C_below HR0_3.1 HB.1)); (case side2 => exact HC0_3.1); (case side3 => exact (Kd.C_below HR0_4.1 HB.1)); (case side4 => exact HC0_4.1); rintro e w29 ⟨rfl, hb⟩; refine ⟨_, rfl, ?_⟩; replace HO_9 := ak (Kd.R_below HO_9.1 hb); replace BK337 := ak (blk_below BK337.1 hb); replace BK338 := ak (blk_below BK338.1 hb); replace HB := ak (below_step HB.1 hb); (try clear hb); refine hK.out _ _ ⟨(blk_cell BK338.1 0).trans rfl, (blk_cell BK338.1 1).trans rfl, (blk_cell BK337.1 0).trans rfl, (blk_cell BK337.1 1).trans rfl, (blk_cell BK337.1 2).trans rfl, (blk_cell BK337.1 3).trans rfl, (blk_cell BK337.1 4).trans rfl, ((HB.1.cell (World.block_lt_of_cell? w _ hw339_0)).trans hw339_0), ((HB.1.cell (World.block_lt_of_cell? w _ hw340_0)).trans hw340_0), ((HB.1.cell (World.block_lt_of_cell? w _ hw341_0)).trans hw341_0), ((HB.1.cell (World.block_lt_of_cell? w _ hw342_0)).trans hw342_0)⟩ (fun hHeld => ?_); clear hK K; refine norm_ (a' := ?_) ?_ ?_; rotate_left
                     ·show Act.put _ (some 64) _ = _
                      simp only [Act.put, List.setIfInBounds_toArray, List.set_cons_zero, List.set_cons_succ, i64_w, i32_w]; rfl
                     refine pu_ 27 (some 65) (bl 28 268435455) HT_.1 ?_; refine done_ (done_of HT_.1 (by kernel_rfl)) ?_
                     try go_wp2_with (first | ((with_reducible refine gate_builtin (b := .append) (xs := #[.tmp 66, .tmp 70]) rfl ?_); (try (refine gate_guard (by rfl) ?_; dsimp only)); at_builtin; refine Kd.R_append k51 (w0 := w) w.heap.size rfl (.tmp 66) (.tmp 70) 35 51 (.agg #[(.int .i64 0), (.int .i64 0)]) 16 rfl Try.underlying35 info51 rfl (by decide) (by omega) u9 x9_3 (⟨x10_1, x11_3⟩ : S51) [.int .i64 x10_1, .int .i64 x11_3] (fun _ => True) (fun _ => False) rfl rfl ?aP (fun _ hk => hk.elim) ?aF ?aO ?aB ?aS ?aL ?_; (case aP => exact k51_mkM _ _ _ (⟨x10_1, x11_3⟩ : S51)); (case aB => exact HB.1); (case aF => exact (fun _ _ => trivial)); (case aO => exact HO_9.1); (case aS => exact HB.1.size); (case aL => have := LMc27.1; omega); intro v345 w30 ho hb hg hat; rw [← Ny344.1] at ho; have n0_ := ak (blk_grown BK337.1 hg (Kd.R_ne HO_9.1 BK337.1 (by decide))); have n1_ := ak (blk_grown BK338.1 hg (Kd.R_ne HO_9.1 BK338.1 (by decide))); have n2_ := ak (hb); have n3_ := ak (ho); clear BK337 BK338 HB HO_9; have BK337 := n0_; have BK338 := n1_; have HB := n2_; have HO346 := n3_; clear n0_ n1_ n2_ n3_; clear ho hb hg hat))
                     go_roundg kj11
                     case measure => have := HK1.1; have := HJ6.1; have := HK3.1; have := HJ11.1; omega
                     case rel => exact ⟨(y344), (wrap64 (x11_3 + 1)), (rs_), H', ⟨by have := HK1.1; have := HJ6.1; have := HK3.1; have := HJ11.1; omega⟩, ⟨by (with_reducible repeat (first | apply Kd.R_alloc | apply Kd.R_drewN | apply Kd.R_drew)); exact HO346.1⟩, ⟨by (with_reducible repeat (first | refine blk_drewN ?_ _ | refine blk_drew ?_ | refine blk_alloc ?_ _)); exact BK337.1⟩, ⟨by (with_reducible repeat (first | refine blk_drewN ?_ _ | refine blk_drew ?_ | refine blk_alloc ?_ _)); exact BK338.1⟩, ⟨hq2_ HB.1 GE337.1 GE338.1⟩⟩
                    ·rw [if_neg c27] at H; exact absurd H (by simp)
                   ·replace c26 := Bool.eq_false_iff.mpr c26; subst c26
                    have H1 : (taquinref25_between.l1 kj11 l1 a3 x9_3 x10_1 (wrap64 (x11_3 + 1)) a0_0 a0_1 a0_2 l0_3 l0_4 l2_0 a2_1) = some r := by rw [if_neg (show ¬ (false = true) by decide)] at H; exact H
                    clear H; have H := H1; clear H1; have H' := ak H; clear H
                    with_reducible refine (taquinref25_Gets.calls kj11 a0_0 a0_1 a0_2 _ _ l0_3 _ _ l0_4 (rd l1 x10_1) (rd l1 x11_3) false _ ?side1 ?side2 ?side3 ?side4 A25.1).mono ?_
                    (case side1 => exact (Kd.C_below HR0_3.1 HB.1)); (case side2 => exact HC0_3.1); (case side3 => exact (Kd.C_below HR0_4.1 HB.1)); (case side4 => exact HC0_4.1); rintro e w32 ⟨rfl, hb⟩; refine ⟨_, rfl, ?_⟩; replace HO_9 := ak (Kd.R_below HO_9.1 hb); replace BK337 := ak (blk_below BK337.1 hb); replace BK338 := ak (blk_below BK338.1 hb); replace HB := ak (below_step HB.1 hb); (try clear hb); refine hK.out _ _ ⟨(blk_cell BK338.1 0).trans rfl, (blk_cell BK338.1 1).trans rfl, (blk_cell BK337.1 0).trans rfl, (blk_cell BK337.1 1).trans rfl, (blk_cell BK337.1 2).trans rfl, (blk_cell BK337.1 3).trans rfl, (blk_cell BK337.1 4).trans rfl, ((HB.1.cell (World.block_lt_of_cell? w _ hw339_0)).trans hw339_0), ((HB.1.cell (World.block_lt_of_cell? w _ hw340_0)).trans hw340_0), ((HB.1.cell (World.block_lt_of_cell? w _ hw341_0)).trans hw341_0), ((HB.1.cell (World.block_lt_of_cell? w _ hw342_0)).trans hw342_0)⟩ (fun hHeld => ?_); clear hK K; refine norm_ (a' := ?_) ?_ ?_; rotate_left
                    ·show Act.put _ (some 64) _ = _
                     simp only [Act.put, List.setIfInBounds_toArray, List.set_cons_zero, List.set_cons_succ, i64_w, i32_w]; rfl
                    refine pu_ 27 (some 65) (bl 28 268435455) HT_.1 ?_; refine done_ (done_of HT_.1 (by kernel_rfl)) ?_
                    try go_wp2
                    go_roundg kj11
                    case measure => have := HK1.1; have := HJ6.1; have := HK3.1; have := HJ11.1; omega
                    case rel => exact ⟨(x9_3), (wrap64 (x11_3 + 1)), (rs_), H', ⟨by have := HK1.1; have := HJ6.1; have := HK3.1; have := HJ11.1; omega⟩, ⟨by (with_reducible repeat (first | apply Kd.R_alloc | apply Kd.R_drewN | apply Kd.R_drew)); exact HO_9.1⟩, ⟨by (with_reducible repeat (first | refine blk_drewN ?_ _ | refine blk_drew ?_ | refine blk_alloc ?_ _)); exact BK337.1⟩, ⟨by (with_reducible repeat (first | refine blk_drewN ?_ _ | refine blk_drew ?_ | refine blk_alloc ?_ _)); exact BK338.1⟩, ⟨hq2_ HB.1 GE337.1 GE338.1⟩⟩
                  ·rw [if_neg c24] at H; exact absurd H (by simp)
                 ·rw [if_neg c23] at H; exact absurd H (by simp)
                ·rw [if_neg c22] at H
                 have c22b0 : ((rdOf false l2_0 x11_3) != a3) = false := by simpa using c22
                 (try (have c22b1 : decide ((rdOf false l2_0 x11_3) = a3) = true := by simpa using c22)); (try (have c22b2 : ((rdOf false l2_0 x11_3) == a3) = true := by simpa using c22)); clear c22; have H' := ak H; clear H
                 try go_wp2
                 replace HO_9 := ak (Kd.R_drew HO_9.1); replace BK337 := ak (blk_drew BK337.1); replace BK338 := ak (blk_drew BK338.1); replace HB := ak (below_drew1 HB.1); have p339 : 0 ≤ (x10_1 : Int) := of_decide_eq_true (by assumption); have q339 : x10_1 < (l2_0.length : Int) := of_decide_eq_true (by assumption); obtain ⟨ad339, e339, hx339_0⟩ := Kd.at_bool HR2_0.1 x10_1 p339 q339; have hw339_0 := hx339_0
                 cases e339
                 replace hx339_0 := (HB.1.cell (World.block_lt_of_cell? w _ hx339_0)).trans hx339_0; replace p339 := eq_true p339; replace q339 := eq_true q339; have p340 : 0 ≤ (x11_3 : Int) := of_decide_eq_true (by assumption); have q340 : x11_3 < (l2_0.length : Int) := of_decide_eq_true (by assumption); obtain ⟨ad340, e340, hx340_0⟩ := Kd.at_bool HR2_0.1 x11_3 p340 q340; have hw340_0 := hx340_0; obtain rfl : ad339 = ad340 := (by injection e340); replace hx340_0 := (HB.1.cell (World.block_lt_of_cell? w _ hx340_0)).trans hx340_0; replace p340 := eq_true p340; replace q340 := eq_true q340; refine start_ (n := 28) (S := fun w' => w'.cell? ⟨gb338, 0, none⟩ = some (.slice (some ad339) l2_0.length c2_0) ∧ w'.cell? ⟨gb338, 1, none⟩ = some (.int .i64 a2_1) ∧ w'.cell? (ad339.add (x10_1).toNat) = some (.bool (rdOf false l2_0 x10_1)) ∧ w'.cell? (ad339.add (x11_3).toNat) = some (.bool (rdOf false l2_0 x11_3))) (ds := []) (bl 28 0) (by kernel_rfl) rfl rfl ⟨(blk_cell BK338.1 0).trans rfl, (blk_cell BK338.1 1).trans rfl, ((HB.1.cell (World.block_lt_of_cell? w _ hw339_0)).trans hw339_0), ((HB.1.cell (World.block_lt_of_cell? w _ hw340_0)).trans hw340_0)⟩ (fun hHeld => ?_); refine with_tabW taquinref25_between.tab8 taquinref25_between.bits8 (fun HT_ HW_ => ?_); generalize wc.drew = w33 at HO_9 BK337 BK338 HB hx339_0 hx340_0 hHeld ⊢; refine pu_ 0 (some 38) (bl 28 1) HT_.1 ?_; refine pu_ 2 (some 40) (bl 28 5) HT_.1 ?_; refine pu_ 5 (some 43) (bl 28 37) HT_.1 ?_; refine tk_ 1 (some 39) (bl 28 39) (take_ofW HT_.1 HW_.1 (by kernel_rfl)) hHeld ?_; refine pu_ 3 (some 41) (bl 28 47) HT_.1 ?_; refine tk_ 4 (some 42) (bl 28 63) (take_ofW HT_.1 HW_.1 (by kernel_rfl)) hHeld ?_; refine pu_ 6 (some 44) (bl 28 127) HT_.1 ?_; refine pu_ 7 (some 45) (bl 28 255) HT_.1 ?_; refine pu_ 8 (some 46) (bl 28 511) HT_.1 ?_; refine pu_ 10 (some 48) (bl 28 1535) HT_.1 ?_; refine pu_ 13 (some 51) (bl 28 9727) HT_.1 ?_; refine tk_ 9 (some 47) (bl 28 10239) (take_ofW HT_.1 HW_.1 (by kernel_rfl)) hHeld ?_; refine pu_ 11 (some 49) (bl 28 12287) HT_.1 ?_; refine tk_ 12 (some 50) (bl 28 16383) (take_ofW HT_.1 HW_.1 (by kernel_rfl)) hHeld ?_; refine pu_ 14 (some 52) (bl 28 32767) HT_.1 ?_; refine pu_ 15 (some 53) (bl 28 65535) HT_.1 ?_; refine pu_ 16 (some 54) (bl 28 131071) HT_.1 ?_; refine pn_ 17 (some 55) (bl 28 262143) HT_.1 ?_; refine pn_ 18 (some 56) (bl 28 524287) HT_.1 ?_; refine pn_ 19 (some 57) (bl 28 1048575) HT_.1 ?_; refine pn_ 20 (some 58) (bl 28 2097151) HT_.1 ?_; refine pn_ 21 (some 59) (bl 28 4194303) HT_.1 ?_; refine pn_ 22 (some 60) (bl 28 8388607) HT_.1 ?_; refine pn_ 23 (some 61) (bl 28 16777215) HT_.1 ?_; refine pn_ 24 (some 62) (bl 28 33554431) HT_.1 ?_; refine pn_ 25 (some 63) (bl 28 67108863) HT_.1 ?_; refine pn_ 26 (some 64) (bl 28 134217727) HT_.1 ?_; refine pu_ 27 (some 65) (bl 28 268435455) HT_.1 ?_; refine done_ (done_of HT_.1 (by kernel_rfl)) ?_
                 try go_wp2
                 go_roundg kj11
                 case measure => have := HK1.1; have := HJ6.1; have := HK3.1; have := HJ11.1; omega
                 case rel => exact ⟨(x9_3), (wrap64 (x11_3 + 1)), (rs_), H', ⟨by have := HK1.1; have := HJ6.1; have := HK3.1; have := HJ11.1; omega⟩, ⟨by (with_reducible repeat (first | apply Kd.R_alloc | apply Kd.R_drewN | apply Kd.R_drew)); exact HO_9.1⟩, ⟨by (with_reducible repeat (first | refine blk_drewN ?_ _ | refine blk_drew ?_ | refine blk_alloc ?_ _)); exact BK337.1⟩, ⟨by (with_reducible repeat (first | refine blk_drewN ?_ _ | refine blk_drew ?_ | refine blk_alloc ?_ _)); exact BK338.1⟩, ⟨hq2_ HB.1 GE337.1 GE338.1⟩⟩
               ·rw [if_neg c21] at H; exact absurd H (by simp)
              ·rw [if_neg c20] at H; exact absurd H (by simp)
             ·rw [if_neg c19] at H
              have c19b0 : ((rdOf false l2_0 x10_1) == a3) = false := by simpa using c19
              (try (have c19b1 : decide ((rdOf false l2_0 x10_1) = a3) = false := by simpa using c19)); (try (have c19b2 : ((rdOf false l2_0 x10_1) == a3) = false := by simpa using c19)); (try (have c19b3 : ¬ ((rdOf false l2_0 x10_1) = a3) := by simpa using c19)); clear c19; have H' := ak H; clear H
              try go_wp2
              replace HO_9 := ak (Kd.R_drew HO_9.1); replace BK337 := ak (blk_drew BK337.1); replace BK338 := ak (blk_drew BK338.1); replace HB := ak (below_drew1 HB.1); have p339 : 0 ≤ (x10_1 : Int) := of_decide_eq_true (by assumption); have q339 : x10_1 < (l2_0.length : Int) := of_decide_eq_true (by assumption); obtain ⟨ad339, e339, hx339_0⟩ := Kd.at_bool HR2_0.1 x10_1 p339 q339; have hw339_0 := hx339_0
              cases e339
              replace hx339_0 := (HB.1.cell (World.block_lt_of_cell? w _ hx339_0)).trans hx339_0; replace p339 := eq_true p339; replace q339 := eq_true q339; refine start_ (n := 28) (S := fun w' => w'.cell? ⟨gb338, 0, none⟩ = some (.slice (some ad339) l2_0.length c2_0) ∧ w'.cell? ⟨gb338, 1, none⟩ = some (.int .i64 a2_1) ∧ w'.cell? (ad339.add (x10_1).toNat) = some (.bool (rdOf false l2_0 x10_1))) (ds := []) (bl 28 0) (by kernel_rfl) rfl rfl ⟨(blk_cell BK338.1 0).trans rfl, (blk_cell BK338.1 1).trans rfl, ((HB.1.cell (World.block_lt_of_cell? w _ hw339_0)).trans hw339_0)⟩ (fun hHeld => ?_); refine with_tabW taquinref25_between.tab8 taquinref25_between.bits8 (fun HT_ HW_ => ?_); generalize wc.drew = w34 at HO_9 BK337 BK338 HB hx339_0 hHeld ⊢; refine pu_ 0 (some 38) (bl 28 1) HT_.1 ?_; refine pu_ 2 (some 40) (bl 28 5) HT_.1 ?_; refine pu_ 5 (some 43) (bl 28 37) HT_.1 ?_; refine tk_ 1 (some 39) (bl 28 39) (take_ofW HT_.1 HW_.1 (by kernel_rfl)) hHeld ?_; refine pu_ 3 (some 41) (bl 28 47) HT_.1 ?_; refine tk_ 4 (some 42) (bl 28 63) (take_ofW HT_.1 HW_.1 (by kernel_rfl)) hHeld ?_; refine pu_ 6 (some 44) (bl 28 127) HT_.1 ?_; refine pu_ 7 (some 45) (bl 28 255) HT_.1 ?_; refine pn_ 8 (some 46) (bl 28 511) HT_.1 ?_; refine pn_ 9 (some 47) (bl 28 1023) HT_.1 ?_; refine pn_ 10 (some 48) (bl 28 2047) HT_.1 ?_; refine pn_ 11 (some 49) (bl 28 4095) HT_.1 ?_; refine pn_ 12 (some 50) (bl 28 8191) HT_.1 ?_; refine pn_ 13 (some 51) (bl 28 16383) HT_.1 ?_; refine pn_ 14 (some 52) (bl 28 32767) HT_.1 ?_; refine pu_ 15 (some 53) (bl 28 65535) HT_.1 ?_; refine pu_ 16 (some 54) (bl 28 131071) HT_.1 ?_; refine pn_ 17 (some 55) (bl 28 262143) HT_.1 ?_; refine pn_ 18 (some 56) (bl 28 524287) HT_.1 ?_; refine pn_ 19 (some 57) (bl 28 1048575) HT_.1 ?_; refine pn_ 20 (some 58) (bl 28 2097151) HT_.1 ?_; refine pn_ 21 (some 59) (bl 28 4194303) HT_.1 ?_; refine pn_ 22 (some 60) (bl 28 8388607) HT_.1 ?_; refine pn_ 23 (some 61) (bl 28 16777215) HT_.1 ?_; refine pn_ 24 (some 62) (bl 28 33554431) HT_.1 ?_; refine pn_ 25 (some 63) (bl 28 67108863) HT_.1 ?_; refine pn_ 26 (some 64) (bl 28 134217727) HT_.1 ?_; refine pu_ 27 (some 65) (bl 28 268435455) HT_.1 ?_; refine done_ (done_of HT_.1 (by kernel_rfl)) ?_
              try go_wp2
              go_roundg kj11
              case measure => have := HK1.1; have := HJ6.1; have := HK3.1; have := HJ11.1; omega
              case rel => exact ⟨(x9_3), (wrap64 (x11_3 + 1)), (rs_), H', ⟨by have := HK1.1; have := HJ6.1; have := HK3.1; have := HJ11.1; omega⟩, ⟨by (with_reducible repeat (first | apply Kd.R_alloc | apply Kd.R_drewN | apply Kd.R_drew)); exact HO_9.1⟩, ⟨by (with_reducible repeat (first | refine blk_drewN ?_ _ | refine blk_drew ?_ | refine blk_alloc ?_ _)); exact BK337.1⟩, ⟨by (with_reducible repeat (first | refine blk_drewN ?_ _ | refine blk_drew ?_ | refine blk_alloc ?_ _)); exact BK338.1⟩, ⟨hq2_ HB.1 GE337.1 GE338.1⟩⟩
            ·rw [if_neg c18] at H; exact absurd H (by simp)
           ·rw [if_neg c17] at H; exact absurd H (by simp)
          ·replace c16 := Bool.eq_false_iff.mpr c16; subst c16
           have H1 : (taquinref25_between.l0 kj11 l1 a3 x9_3 (wrap64 (x10_1 + 1)) a0_0 a0_1 a0_2 l0_3 l0_4 l2_0 a2_1) = some r := by rw [if_neg (show ¬ (false = true) by decide)] at H; exact H
           clear H; have H := H1; clear H1; have H' := ak H; clear H
           go_wp2
           go_roundg kj11
           case measure => have := HK1.1; have := HJ6.1; have := HK3.1; have := HJ11.1; omega
           case rel => exact ⟨(x9_3), (wrap64 (x10_1 + 1)), (rs_), H', ⟨by have := HK1.1; have := HJ6.1; have := HK3.1; have := HJ11.1; omega⟩, ⟨by (with_reducible repeat (first | apply Kd.R_alloc | apply Kd.R_drewN | apply Kd.R_drew)); exact HO_9.1⟩, ⟨by (with_reducible repeat (first | refine blk_drewN ?_ _ | refine blk_drew ?_ | refine blk_alloc ?_ _)); exact BK337.1⟩, ⟨by (with_reducible repeat (first | refine blk_drewN ?_ _ | refine blk_drew ?_ | refine blk_alloc ?_ _)); exact BK338.1⟩, ⟨hq2_ HB.1 GE337.1 GE338.1⟩⟩
     ·replace c11 := Bool.eq_false_iff.mpr c11; subst c11
      have H1 : (some x9_1) = some r := by rw [if_neg (show ¬ (false = true) by decide)] at H; exact H
      clear H; have H := H1; clear H1; obtain rfl := Option.some.inj H
      go_wp2
      go_ret
      exact ⟨_, er_, by (with_reducible repeat (first | apply Kd.R_alloc | apply Kd.R_drewN | apply Kd.R_drew)); exact HO_9.1, hq2_ HB.1 GE337.1 GE338.1⟩
def taquinref25_Backs.f (k : Nat) (a0_0 : Int) (a0_1 : Int) (a0_2 : Int) (l0_3 : List Int) (l0_4 : List Int) (l1 : List Int) (l2_0 : List Bool) (a2_1 : Int) : Option ((List (S51))) := (taquinref25_between.f k a0_0 a0_1 a0_2 l0_3 l0_4 l1 l2_0 a2_1 false).bind fun t349 => (some t349)
set_option maxHeartbeats 8000000 in
set_option maxRecDepth 100000 in
theorem taquinref25_Backs.calls (k : Nat) (a0_0 : Int) (a0_1 : Int) (a0_2 : Int) (A0_3 : Option Addr) (c0_3 : Nat) (l0_3 : List Int) (A0_4 : Option Addr) (c0_4 : Nat) (l0_4 : List Int) (A1 : Option Addr) (c1 : Nat) (l1 : List Int) (A2_0 : Option Addr) (c2_0 : Nat) (l2_0 : List Bool) (a2_1 : Int) (r : List (S51)) (w : World) (hr0_3 : Kd.C (Kd.int .i64) w A0_3 l0_3.length l0_3) (hc0_3 : l0_3.length ≤ c0_3) (hr0_4 : Kd.C (Kd.int .i64) w A0_4 l0_4.length l0_4) (hc0_4 : l0_4.length ≤ c0_4) (hr1 : Kd.C (Kd.int .i64) w A1 l1.length l1) (hc1 : l1.length ≤ c1) (hr2_0 : Kd.C Kd.bool w A2_0 l2_0.length l2_0) (hc2_0 : l2_0.length ≤ c2_0) (h : taquinref25_Backs.f k a0_0 a0_1 a0_2 l0_3 l0_4 l1 l2_0 a2_1 = some r) :
  Calls Try.prog 58 #[.agg #[.int .i64 a0_0, .int .i64 a0_1, .int .i64 a0_2, .slice A0_3 l0_3.length c0_3, .slice A0_4 l0_4.length c0_4], .slice A1 l1.length c1, .agg #[.slice A2_0 l2_0.length c2_0, .int .i64 a2_1]] w fun e w' => ∃ v0_ : Value, e = .returned (v0_) ∧ Kd.R k51 51 w' w.heap.size (fun _ => True) v0_ r ∧ Below w.heap.size w w' := by
 have hu24 := Try.underlying24; have hu27 := Try.underlying27; have HR0_3 := ak hr0_3; have HC0_3 := ak hc0_3; clear hr0_3 hc0_3; have HR0_4 := ak hr0_4; have HC0_4 := ak hc0_4; clear hr0_4 hc0_4; have HR1 := ak hr1; have HC1 := ak hc1; clear hr1 hc1; have HR2_0 := ak hr2_0; have HC2_0 := ak hc2_0; clear hr2_0 hc2_0; have HB := ak (Below.refl w.heap.size w); have H : ((taquinref25_between.f k a0_0 a0_1 a0_2 l0_3 l0_4 l1 l2_0 a2_1 false).bind fun t349 => (some t349)) = some r := h; clear h; replace H := Option.bind_eq_some_iff.mp H; obtain ⟨t349, A40, H⟩ := H
 replace H : (some t349) = some r := H
 have A4 := ak A40; clear A40; obtain rfl := Option.some.inj H
 go_enter Try.func58, Try.ntmps58
 go_wp2_with (first | ((with_reducible refine gate_dst (N := 3) rfl ?_); refine box_event ?hg (N := 3) ?hd (cs := #[.int .i64 a0_0, .int .i64 a0_1, .int .i64 a0_2, .slice A0_3 l0_3.length c0_3, .slice A0_4 l0_4.length c0_4]) (t := 24) ?hr ?_; (case hd => rfl); (case hg => rfl); (case hr => first | (go_simp; done) | (go_simp; rfl)); intro gb347 hg w5 hbox hb; have BK347 := ak (hbox); have GW347 := gw_ hg HB.1.size; have GE347 := gw_ hg HB.1.size; replace HB := ak (below_step HB.1 hb); clear hb hbox hg) | ((with_reducible refine gate_dst (N := 5) rfl ?_); refine box_event ?hg (N := 5) ?hd (cs := #[.slice A2_0 l2_0.length c2_0, .int .i64 a2_1]) (t := 27) ?hr ?_; (case hd => rfl); (case hg => rfl); (case hr => first | (go_simp; done) | (go_simp; rfl)); intro gb348 hg w6 hbox hb; have n0_ := ak (blk_below BK347.1 hb); have n1_ := ak (below_step HB.1 hb); have n2_ := ak (hbox); have n3_ := gw_ hg HB.1.size; have n4_ := gw_ hg HB.1.size; have n5_ := ak ((by rw [hg]; exact Nat.ne_of_lt (blk_lt BK347.1) : gb347 ≠ gb348)); have n6_ := ak ((by rw [hg]; exact Nat.ne_of_gt (blk_lt BK347.1) : gb348 ≠ gb347)); clear BK347 HB; have BK347 := n0_; have HB := n1_; have BK348 := n2_; have GW348 := n3_; have GE348 := n4_; have NB347_348 := n5_; have NB348_347 := n6_; clear n0_ n1_ n2_ n3_ n4_ n5_ n6_; clear hb hbox hg; have hnb7 := NB347_348.1; have hnc7 := NB348_347.1; obtain ⟨hcz8_0, hcz8_1, hcz8_2, hcz8_3, hcz8_4, hfz8_0, hfz8_1, hfz8_2, hfz8_3, hfz8_4⟩ := bk5 BK347.1; obtain ⟨hcz9_0, hcz9_1, hfz9_0, hfz9_1⟩ := bk2 BK348.1) | ((with_reducible refine gate_callee (f := 83) rfl ?_); refine goesL_ (some 10) rfl rfl Try.func83 (by kernel_rfl) rfl #[.agg #[.int .i64 a0_0, .int .i64 a0_1, .int .i64 a0_2, .slice A0_3 l0_3.length c0_3, .slice A0_4 l0_4.length c0_4], .slice A1 l1.length c1, .agg #[.slice A2_0 l2_0.length c2_0, .int .i64 a2_1], .bool false] rfl (sm_) ?_; (with_reducible refine (taquinref25_between.calls k a0_0 a0_1 a0_2 _ _ l0_3 _ _ l0_4 _ _ l1 _ _ l2_0 a2_1 false t349 _ ?side1 ?side2 ?side3 ?side4 ?side5 ?side6 ?side7 ?side8 A4.1).mono ?_); (case side1 => exact (Kd.C_below HR0_3.1 HB.1)); (case side2 => exact HC0_3.1); (case side3 => exact (Kd.C_below HR0_4.1 HB.1)); (case side4 => exact HC0_4.1); (case side5 => exact (Kd.C_below HR1.1 HB.1)); (case side6 => exact HC1.1); (case side7 => exact (Kd.C_below HR2_0.1 HB.1)); (case side8 => exact HC2_0.1); rintro e w10 ⟨v350, rfl, ho0, hb⟩; refine ⟨_, rfl, ?_⟩; replace BK347 := ak (blk_below BK347.1 hb); replace BK348 := ak (blk_below BK348.1 hb); have HO351 := ak (Kd.R_lower ho0 HB.1.size); replace HB := ak (below_step HB.1 hb); (try clear hb); (try clear ho0)))
 go_ret
 exact ⟨_, er_, by (with_reducible repeat (first | apply Kd.R_alloc | apply Kd.R_drewN | apply Kd.R_drew)); exact HO351.1, hq2_ HB.1 GE347.1 GE348.1⟩
def taquinref25_Shelves.l0 : Nat → Int → Int → List Bool → Int → Option (Int)
 | 0, _, _, _, _ => none
 | k + 1, x3, x4, x367000, x367001 => if x4 < (x367000.length : Int) then (if 0 ≤ x4 then (if rdOf false x367000 x4 = true then (taquinref25_Shelves.l0 k (wrap64 (x3 + 1)) (wrap64 (x4 + 1)) x367000 x367001) else (taquinref25_Shelves.l0 k x3 (wrap64 (x4 + 1)) x367000 x367001)) else (none)) else (some x3)
def taquinref25_Shelves.f (k : Nat) (l0_0 : List Bool) (a0_1 : Int) : Option (Int) := taquinref25_Shelves.l0 k 0 0 l0_0 a0_1
theorem taquinref25_Shelves.mono_l : ∀ k, (∀ y0 y1 y2 y3, LeO (taquinref25_Shelves.l0 k y0 y1 y2 y3) (taquinref25_Shelves.l0 (k + 1) y0 y1 y2 y3))
 | 0 => fun _ _ _ _ r h => by simp [taquinref25_Shelves.l0] at h
 | k + 1 => by
  have ih0 := taquinref25_Shelves.mono_l k
  ·intro y0 y1 y2 y3
   unfold taquinref25_Shelves.l0
   repeat' first
   | (with_reducible exact ih0 _ _ _ _)
   | (with_reducible exact LeO.refl _)
   | (with_reducible exact LeO.none _)
   | (with_reducible refine LeO.ite ?_ ?_)
   | (with_reducible refine LeO.bind ?_ (fun _ => ?_))
   | exact ih0 _ _ _ _
   | exact LeO.none _
   | refine LeO.ite ?_ ?_
   | refine LeO.bind ?_ (fun _ => ?_)
theorem taquinref25_Shelves.mono : ∀ a0 a1 k, LeO (taquinref25_Shelves.f k a0 a1) (taquinref25_Shelves.f (k + 1) a0 a1) := by
 intro a0 a1 k; have ih0 := taquinref25_Shelves.mono_l k
 unfold taquinref25_Shelves.f
 repeat' first
   | (with_reducible exact ih0 _ _ _ _)
   | (with_reducible exact LeO.refl _)
   | (with_reducible exact LeO.none _)
   | (with_reducible refine LeO.ite ?_ ?_)
   | (with_reducible refine LeO.bind ?_ (fun _ => ?_))
   | exact ih0 _ _ _ _
   | exact LeO.none _
   | refine LeO.ite ?_ ?_
   | refine LeO.bind ?_ (fun _ => ?_)
set_option maxHeartbeats 8000000 in
set_option maxRecDepth 100000 in
theorem taquinref25_Shelves.calls (k : Nat) (A0_0 : Option Addr) (c0_0 : Nat) (l0_0 : List Bool) (a0_1 : Int) (r : Int) (w : World) (hr0_0 : Kd.C Kd.bool w A0_0 l0_0.length l0_0) (hc0_0 : l0_0.length ≤ c0_0) (h : taquinref25_Shelves.f k l0_0 a0_1 = some r) :
  Calls Try.prog 62 #[.agg #[.slice A0_0 l0_0.length c0_0, .int .i64 a0_1]] w fun e w' => e = .returned (.int .i64 r) ∧ Below w.heap.size w w' := by
 have hu27 := Try.underlying27; have HR0_0 := ak hr0_0; have HC0_0 := ak hc0_0; clear hr0_0 hc0_0; have HB := ak (Below.refl w.heap.size w); have H : (taquinref25_Shelves.l0 k 0 0 l0_0 a0_1) = some r := h; clear h; have H' := ak H; clear H
 go_enter Try.func62, Try.ntmps62
 go_wp2_with (first | ((with_reducible refine gate_dst (N := 1) rfl ?_); refine box_event ?hg (N := 1) ?hd (cs := #[.slice A0_0 l0_0.length c0_0, .int .i64 a0_1]) (t := 27) ?hr ?_; (case hd => rfl); (case hg => rfl); (case hr => first | (go_simp; done) | (go_simp; rfl)); intro gb366 hg w2 hbox hb; have BK366 := ak (hbox); have GW366 := gw_ hg HB.1.size; have GE366 := gw_ hg HB.1.size; replace HB := ak (below_step HB.1 hb); clear hb hbox hg))
 go_loopg [3, 4] k (fun kq v3 v4 w' => ∃ (x3_1 : Int) (x4_1 : Int), v3 = .int .i64 x3_1 ∧ v4 = .int .i64 x4_1 ∧ Aside0 (taquinref25_Shelves.l0 kq x3_1 x4_1 l0_0 a0_1 = some r) ∧ Aside0 (kq ≤ k) ∧ Aside0 (w'.heap[gb366]? = some (.cells #[(.slice A0_0 l0_0.length c0_0), .int .i64 a0_1] 27 (0, 0))) ∧ Aside0 (Below w.heap.size w w'))
 case atStart => exact ⟨(0), (0), (rs_), (rs_), H', ⟨Nat.le_refl _⟩, ⟨by (with_reducible repeat (first | refine blk_drewN ?_ _ | refine blk_drew ?_ | refine blk_alloc ?_ _)); exact BK366.1⟩, ⟨hq1_ HB.1 GE366.1⟩⟩
 case round =>
  clear H'; (try clear p2); obtain ⟨x3_1, x4_1, rfl, rfl, HA, HK1, BK366, HB⟩ := hrel
  cases gk with
  | zero => exact absurd HA.1 (by simp [taquinref25_Shelves.l0])
  | succ k1 =>
   have H := HA.1; clear HA; simp only [taquinref25_Shelves.l0] at H
   by_cases c3 : x4_1 < (l0_0.length : Int)
   ·rw [if_pos c3] at H; have c3b0 : decide (x4_1 < (l0_0.length : Int)) = true := decide_eq_true c3; clear c3
    by_cases c4 : 0 ≤ x4_1
    ·rw [if_pos c4] at H; have c4b0 : decide (0 ≤ x4_1) = true := decide_eq_true c4; clear c4; obtain ⟨bq5, hbq5⟩ : ∃ b_ : Bool, b_ = (rdOf false l0_0 x4_1) := ⟨_, rfl⟩
     replace H : (if bq5 = true then (taquinref25_Shelves.l0 k1 (wrap64 (x3_1 + 1)) (wrap64 (x4_1 + 1)) l0_0 a0_1) else (taquinref25_Shelves.l0 k1 x3_1 (wrap64 (x4_1 + 1)) l0_0 a0_1)) = some r := by rw [← hbq5] at H; exact H
     have Nbq5 := ak hbq5; clear hbq5
     by_cases c6 : bq5 = true
     ·subst c6
      have H1 : (taquinref25_Shelves.l0 k1 (wrap64 (x3_1 + 1)) (wrap64 (x4_1 + 1)) l0_0 a0_1) = some r := by rw [if_pos rfl] at H; exact H
      clear H; have H := H1; clear H1; have H' := ak H; clear H; have hcz7_0 : wr.cell? ⟨gb366, 0, none⟩ = some (.slice A0_0 l0_0.length c0_0) := (blk_cell BK366.1 0).trans rfl; have hcz7_1 : wr.cell? ⟨gb366, 1, none⟩ = some (.int .i64 a0_1) := (blk_cell BK366.1 1).trans rfl; have hfz7_0 := blk_frozen BK366.1 0; have hfz7_1 := blk_frozen BK366.1 1; have p367 : 0 ≤ (x4_1 : Int) := of_decide_eq_true (as_); have q367 : x4_1 < (l0_0.length : Int) := of_decide_eq_true (as_); obtain ⟨ad367, e367, hx367_0⟩ := Kd.at_bool HR0_0.1 x4_1 p367 q367; (try rw [← Nbq5.1] at hx367_0)
      cases e367
      replace hx367_0 := (HB.1.cell (World.block_lt_of_cell? w _ hx367_0)).trans hx367_0; replace p367 := eq_true p367; replace q367 := eq_true q367
      go_wp2
      go_roundg k1
      case measure => have := HK1.1; omega
      case rel => exact ⟨(wrap64 (x3_1 + 1)), (wrap64 (x4_1 + 1)), (rs_), (rs_), H', ⟨by have := HK1.1; omega⟩, ⟨by (with_reducible repeat (first | refine blk_drewN ?_ _ | refine blk_drew ?_ | refine blk_alloc ?_ _)); exact BK366.1⟩, ⟨hq1_ HB.1 GE366.1⟩⟩
     ·replace c6 := Bool.eq_false_iff.mpr c6; subst c6
      have H1 : (taquinref25_Shelves.l0 k1 x3_1 (wrap64 (x4_1 + 1)) l0_0 a0_1) = some r := by rw [if_neg (show ¬ (false = true) by decide)] at H; exact H
      clear H; have H := H1; clear H1; have H' := ak H; clear H; have hcz8_0 : wr.cell? ⟨gb366, 0, none⟩ = some (.slice A0_0 l0_0.length c0_0) := (blk_cell BK366.1 0).trans rfl; have hcz8_1 : wr.cell? ⟨gb366, 1, none⟩ = some (.int .i64 a0_1) := (blk_cell BK366.1 1).trans rfl; have hfz8_0 := blk_frozen BK366.1 0; have hfz8_1 := blk_frozen BK366.1 1; have p367 : 0 ≤ (x4_1 : Int) := of_decide_eq_true (as_); have q367 : x4_1 < (l0_0.length : Int) := of_decide_eq_true (as_); obtain ⟨ad367, e367, hx367_0⟩ := Kd.at_bool HR0_0.1 x4_1 p367 q367; (try rw [← Nbq5.1] at hx367_0)
      cases e367
      replace hx367_0 := (HB.1.cell (World.block_lt_of_cell? w _ hx367_0)).trans hx367_0; replace p367 := eq_true p367; replace q367 := eq_true q367
      go_wp2
      go_roundg k1
      case measure => have := HK1.1; omega
      case rel => exact ⟨(x3_1), (wrap64 (x4_1 + 1)), (rs_), (rs_), H', ⟨by have := HK1.1; omega⟩, ⟨by (with_reducible repeat (first | refine blk_drewN ?_ _ | refine blk_drew ?_ | refine blk_alloc ?_ _)); exact BK366.1⟩, ⟨hq1_ HB.1 GE366.1⟩⟩
    ·rw [if_neg c4] at H; exact absurd H (by simp)
   ·rw [if_neg c3] at H; have c3b0 : decide (x4_1 < (l0_0.length : Int)) = false := decide_eq_false c3; clear c3; obtain rfl := Option.some.inj H; have hcz9_0 : wr.cell? ⟨gb366, 0, none⟩ = some (.slice A0_0 l0_0.length c0_0) := (blk_cell BK366.1 0).trans rfl; have hcz9_1 : wr.cell? ⟨gb366, 1, none⟩ = some (.int .i64 a0_1) := (blk_cell BK366.1 1).trans rfl; have hfz9_0 := blk_frozen BK366.1 0; have hfz9_1 := blk_frozen BK366.1 1
    go_wp2
    go_ret
    exact ⟨er_, hq1_ HB.1 GE366.1⟩
mutual
def taquinref25_Rank.l0 : Nat → Int → Int → Int → Int → List Bool → Int → Option (Int)
 | 0, _, _, _, _, _, _ => none
 | k + 1, x3, x4, x5, x6, x369000, x369001 => if x6 < x3 then (if x6 = x369001 then (taquinref25_Rank.l0 k x3 x4 x5 (wrap64 (x6 + 1)) x369000 x369001) else (taquinref25_Rank.l1 k x3 x4 x5 x6 0 (wrap64 (x6 + 1)) x369000 x369001)) else (some x5)
def taquinref25_Rank.l1 : Nat → Int → Int → Int → Int → Int → Int → List Bool → Int → Option (Int)
 | 0, _, _, _, _, _, _, _, _ => none
 | k + 1, x3, x4, x5, x6, x7, x8, x369000, x369001 => if x8 < x3 then (if x8 = x369001 then (taquinref25_Rank.l1 k x3 x4 x5 x6 x7 (wrap64 (x8 + 1)) x369000 x369001) else (taquinref25_Rank.l1 k x3 x4 x5 x6 (wrap64 (x7 + 1)) (wrap64 (x8 + 1)) x369000 x369001)) else (if 0 ≤ x6 then (if x6 < (x369000.length : Int) then (if rdOf false x369000 x6 = true then (taquinref25_Rank.l0 k x3 (wrap64 (x4 - 1)) x5 (wrap64 (x6 + 1)) x369000 x369001) else ((taquinref25_Choose.f k x7 (wrap64 (x4 - 1))).bind fun t372 => (taquinref25_Rank.l0 k x3 x4 (wrap64 (x5 + t372)) (wrap64 (x6 + 1)) x369000 x369001))) else (none)) else (none))
end
def taquinref25_Rank.f (k : Nat) (l0_0 : List Bool) (a0_1 : Int) : Option (Int) := (taquinref25_Shelves.f k l0_0 a0_1).bind fun t369 => ((taquinref25_Choose.f k (wrap64 ((l0_0.length : Int) - 1)) (wrap64 (t369 - 1))).bind fun t370 => (taquinref25_Rank.l0 k (l0_0.length : Int) (wrap64 (t369 - 1)) (wrap64 (a0_1 * t370)) 0 l0_0 a0_1))
theorem taquinref25_Rank.mono_l : ∀ k, (∀ y0 y1 y2 y3 y4 y5, LeO (taquinref25_Rank.l0 k y0 y1 y2 y3 y4 y5) (taquinref25_Rank.l0 (k + 1) y0 y1 y2 y3 y4 y5)) ∧ (∀ y0 y1 y2 y3 y4 y5 y6 y7, LeO (taquinref25_Rank.l1 k y0 y1 y2 y3 y4 y5 y6 y7) (taquinref25_Rank.l1 (k + 1) y0 y1 y2 y3 y4 y5 y6 y7))
 | 0 => ⟨fun _ _ _ _ _ _ r h => by simp [taquinref25_Rank.l0] at h, fun _ _ _ _ _ _ _ _ r h => by simp [taquinref25_Rank.l1] at h⟩
 | k + 1 => by
  obtain ⟨ih0, ih1⟩ := taquinref25_Rank.mono_l k; refine ⟨?_, ?_⟩
  ·intro y0 y1 y2 y3 y4 y5
   unfold taquinref25_Rank.l0
   repeat' first
   | (with_reducible exact ih0 _ _ _ _ _ _)
   | (with_reducible exact ih1 _ _ _ _ _ _ _ _)
   | (with_reducible exact taquinref25_Choose.mono _ _ _)
   | (with_reducible exact taquinref25_Shelves.mono _ _ _)
   | (with_reducible exact LeO.refl _)
   | (with_reducible exact LeO.none _)
   | (with_reducible refine LeO.ite ?_ ?_)
   | (with_reducible refine LeO.bind ?_ (fun _ => ?_))
   | exact ih0 _ _ _ _ _ _
   | exact ih1 _ _ _ _ _ _ _ _
   | exact taquinref25_Choose.mono _ _ _
   | exact taquinref25_Shelves.mono _ _ _
   | exact LeO.none _
   | refine LeO.ite ?_ ?_
   | refine LeO.bind ?_ (fun _ => ?_)
  ·intro y0 y1 y2 y3 y4 y5 y6 y7
   unfold taquinref25_Rank.l1
   repeat' first
   | (with_reducible exact ih0 _ _ _ _ _ _)
   | (with_reducible exact ih1 _ _ _ _ _ _ _ _)
   | (with_reducible exact taquinref25_Choose.mono _ _ _)
   | (with_reducible exact taquinref25_Shelves.mono _ _ _)
   | (with_reducible exact LeO.refl _)
   | (with_reducible exact LeO.none _)
   | (with_reducible refine LeO.ite ?_ ?_)
   | (with_reducible refine LeO.bind ?_ (fun _ => ?_))
   | exact ih0 _ _ _ _ _ _
   | exact ih1 _ _ _ _ _ _ _ _
   | exact taquinref25_Choose.mono _ _ _
   | exact taquinref25_Shelves.mono _ _ _
   | exact LeO.none _
   | refine LeO.ite ?_ ?_
   | refine LeO.bind ?_ (fun _ => ?_)
theorem taquinref25_Rank.mono : ∀ a0 a1 k, LeO (taquinref25_Rank.f k a0 a1) (taquinref25_Rank.f (k + 1) a0 a1) := by
 intro a0 a1 k; obtain ⟨ih0, ih1⟩ := taquinref25_Rank.mono_l k
 unfold taquinref25_Rank.f
 repeat' first
   | (with_reducible exact ih0 _ _ _ _ _ _)
   | (with_reducible exact ih1 _ _ _ _ _ _ _ _)
   | (with_reducible exact taquinref25_Choose.mono _ _ _)
   | (with_reducible exact taquinref25_Shelves.mono _ _ _)
   | (with_reducible exact LeO.refl _)
   | (with_reducible exact LeO.none _)
   | (with_reducible refine LeO.ite ?_ ?_)
   | (with_reducible refine LeO.bind ?_ (fun _ => ?_))
   | exact ih0 _ _ _ _ _ _
   | exact ih1 _ _ _ _ _ _ _ _
   | exact taquinref25_Choose.mono _ _ _
   | exact taquinref25_Shelves.mono _ _ _
   | exact LeO.none _
   | refine LeO.ite ?_ ?_
   | refine LeO.bind ?_ (fun _ => ?_)
set_option maxHeartbeats 8000000 in
set_option maxRecDepth 100000 in
theorem taquinref25_Rank.calls (k : Nat) (A0_0 : Option Addr) (c0_0 : Nat) (l0_0 : List Bool) (a0_1 : Int) (r : Int) (w : World) (hr0_0 : Kd.C Kd.bool w A0_0 l0_0.length l0_0) (hc0_0 : l0_0.length ≤ c0_0) (h : taquinref25_Rank.f k l0_0 a0_1 = some r) :
  Calls Try.prog 60 #[.agg #[.slice A0_0 l0_0.length c0_0, .int .i64 a0_1]] w fun e w' => e = .returned (.int .i64 r) ∧ Below w.heap.size w w' := by
 have hu27 := Try.underlying27; have HR0_0 := ak hr0_0; have HC0_0 := ak hc0_0; clear hr0_0 hc0_0; have HB := ak (Below.refl w.heap.size w); have H : ((taquinref25_Shelves.f k l0_0 a0_1).bind fun t369 => ((taquinref25_Choose.f k (wrap64 ((l0_0.length : Int) - 1)) (wrap64 (t369 - 1))).bind fun t370 => (taquinref25_Rank.l0 k (l0_0.length : Int) (wrap64 (t369 - 1)) (wrap64 (a0_1 * t370)) 0 l0_0 a0_1))) = some r := h; clear h; replace H := Option.bind_eq_some_iff.mp H; obtain ⟨t369, A20, H⟩ := H
 replace H : ((taquinref25_Choose.f k (wrap64 ((l0_0.length : Int) - 1)) (wrap64 (t369 - 1))).bind fun t370 => (taquinref25_Rank.l0 k (l0_0.length : Int) (wrap64 (t369 - 1)) (wrap64 (a0_1 * t370)) 0 l0_0 a0_1)) = some r := H
 have A2 := ak A20; clear A20; replace H := Option.bind_eq_some_iff.mp H; obtain ⟨t370, A30, H⟩ := H
 replace H : (taquinref25_Rank.l0 k (l0_0.length : Int) (wrap64 (t369 - 1)) (wrap64 (a0_1 * t370)) 0 l0_0 a0_1) = some r := H
 have A3 := ak A30; clear A30; have H' := ak H; clear H
 go_enter Try.func60, Try.ntmps60
 go_wp2_with (first | ((with_reducible refine gate_dst (N := 1) rfl ?_); refine box_event ?hg (N := 1) ?hd (cs := #[.slice A0_0 l0_0.length c0_0, .int .i64 a0_1]) (t := 27) ?hr ?_; (case hd => rfl); (case hg => rfl); (case hr => first | (go_simp; done) | (go_simp; rfl)); intro gb368 hg w4 hbox hb; have BK368 := ak (hbox); have GW368 := gw_ hg HB.1.size; have GE368 := gw_ hg HB.1.size; replace HB := ak (below_step HB.1 hb); clear hb hbox hg; obtain ⟨hcz5_0, hcz5_1, hfz5_0, hfz5_1⟩ := bk2 BK368.1) | (go_at_call 62; (with_reducible refine (taquinref25_Shelves.calls k _ _ l0_0 a0_1 t369 _ ?side1 ?side2 A2.1).mono ?_); (case side1 => exact (Kd.C_below HR0_0.1 HB.1)); (case side2 => exact HC0_0.1); rintro e w6 ⟨rfl, hb⟩; replace BK368 := ak (blk_below BK368.1 hb); replace HB := ak (below_step HB.1 hb); (try clear hb); obtain ⟨hcz7_0, hcz7_1, hfz7_0, hfz7_1⟩ := bk2 BK368.1) | (go_at_call 76; (with_reducible refine (taquinref25_Choose.calls k (wrap64 ((l0_0.length : Int) - 1)) (wrap64 (t369 - 1)) t370 _ A3.1).mono ?_); rintro e w' ⟨rfl, ⟨nd, rfl⟩⟩; (try first | exact ⟨rfl, _, World.drewN_drewN _ _ _⟩ | exact ⟨rfl, _, Eq.trans (World.drewN_drewN _ _ _) (congrArg (World.drewN _) (Nat.add_assoc _ _ _))⟩)))
 repeat (go_quiet (first | ((with_reducible refine gate_dst (N := 1) rfl ?_); refine box_event ?hg (N := 1) ?hd (cs := #[.slice A0_0 l0_0.length c0_0, .int .i64 a0_1]) (t := 27) ?hr ?_; (case hd => rfl); (case hg => rfl); (case hr => first | (go_simp; done) | (go_simp; rfl)); intro gb368 hg w4 hbox hb; have BK368 := ak (hbox); have GW368 := gw_ hg HB.1.size; have GE368 := gw_ hg HB.1.size; replace HB := ak (below_step HB.1 hb); clear hb hbox hg; obtain ⟨hcz5_0, hcz5_1, hfz5_0, hfz5_1⟩ := bk2 BK368.1) | (go_at_call 62; (with_reducible refine (taquinref25_Shelves.calls k _ _ l0_0 a0_1 t369 _ ?side1 ?side2 A2.1).mono ?_); (case side1 => exact (Kd.C_below HR0_0.1 HB.1)); (case side2 => exact HC0_0.1); rintro e w6 ⟨rfl, hb⟩; replace BK368 := ak (blk_below BK368.1 hb); replace HB := ak (below_step HB.1 hb); (try clear hb); obtain ⟨hcz7_0, hcz7_1, hfz7_0, hfz7_1⟩ := bk2 BK368.1) | (go_at_call 76; (with_reducible refine (taquinref25_Choose.calls k (wrap64 ((l0_0.length : Int) - 1)) (wrap64 (t369 - 1)) t370 _ A3.1).mono ?_); rintro e w' ⟨rfl, ⟨nd, rfl⟩⟩; (try first | exact ⟨rfl, _, World.drewN_drewN _ _ _⟩ | exact ⟨rfl, _, Eq.trans (World.drewN_drewN _ _ _) (congrArg (World.drewN _) (Nat.add_assoc _ _ _))⟩))); try go_wp2_with (first | ((with_reducible refine gate_dst (N := 1) rfl ?_); refine box_event ?hg (N := 1) ?hd (cs := #[.slice A0_0 l0_0.length c0_0, .int .i64 a0_1]) (t := 27) ?hr ?_; (case hd => rfl); (case hg => rfl); (case hr => first | (go_simp; done) | (go_simp; rfl)); intro gb368 hg w4 hbox hb; have BK368 := ak (hbox); have GW368 := gw_ hg HB.1.size; have GE368 := gw_ hg HB.1.size; replace HB := ak (below_step HB.1 hb); clear hb hbox hg; obtain ⟨hcz5_0, hcz5_1, hfz5_0, hfz5_1⟩ := bk2 BK368.1) | (go_at_call 62; (with_reducible refine (taquinref25_Shelves.calls k _ _ l0_0 a0_1 t369 _ ?side1 ?side2 A2.1).mono ?_); (case side1 => exact (Kd.C_below HR0_0.1 HB.1)); (case side2 => exact HC0_0.1); rintro e w6 ⟨rfl, hb⟩; replace BK368 := ak (blk_below BK368.1 hb); replace HB := ak (below_step HB.1 hb); (try clear hb); obtain ⟨hcz7_0, hcz7_1, hfz7_0, hfz7_1⟩ := bk2 BK368.1) | (go_at_call 76; (with_reducible refine (taquinref25_Choose.calls k (wrap64 ((l0_0.length : Int) - 1)) (wrap64 (t369 - 1)) t370 _ A3.1).mono ?_); rintro e w' ⟨rfl, ⟨nd, rfl⟩⟩; (try first | exact ⟨rfl, _, World.drewN_drewN _ _ _⟩ | exact ⟨rfl, _, Eq.trans (World.drewN_drewN _ _ _) (congrArg (World.drewN _) (Nat.add_assoc _ _ _))⟩))))
 go_loopg [4, 5, 6] k (fun kq v4 v5 v6 w' => ∃ (x4_1 : Int) (x5_1 : Int) (x6_1 : Int), v4 = .int .i64 x4_1 ∧ v5 = .int .i64 x5_1 ∧ v6 = .int .i64 x6_1 ∧ Aside0 (taquinref25_Rank.l0 kq (l0_0.length : Int) x4_1 x5_1 x6_1 l0_0 a0_1 = some r) ∧ Aside0 (kq ≤ k) ∧ Aside0 (w'.heap[gb368]? = some (.cells #[(.slice A0_0 l0_0.length c0_0), .int .i64 a0_1] 27 (0, 0))) ∧ Aside0 (Below w.heap.size w w'))
 case atStart => exact ⟨(wrap64 (t369 - 1)), (wrap64 (a0_1 * t370)), (0), (rs_), (rs_), (rs_), H', ⟨Nat.le_refl _⟩, ⟨by (with_reducible repeat (first | refine blk_drewN ?_ _ | refine blk_drew ?_ | refine blk_alloc ?_ _)); exact BK368.1⟩, ⟨hq1_ HB.1 GE368.1⟩⟩
 case round =>
  clear H'; (try clear p2); (try clear c6); (try clear p6); (try clear hcz5_0); (try clear hcz5_1); (try clear hcz7_0); (try clear hcz7_1); (try clear hfz5_0); (try clear hfz5_1); (try clear hfz7_0); (try clear hfz7_1); obtain ⟨x4_1, x5_1, x6_1, rfl, rfl, rfl, HA, HK1, BK368, HB⟩ := hrel
  cases gk with
  | zero => exact absurd HA.1 (by simp [taquinref25_Rank.l0])
  | succ k1 =>
   have H := HA.1; clear HA; simp only [taquinref25_Rank.l0] at H
   by_cases c8 : x6_1 < (l0_0.length : Int)
   ·rw [if_pos c8] at H; have c8b0 : decide (x6_1 < (l0_0.length : Int)) = true := decide_eq_true c8; clear c8
    by_cases c9 : x6_1 = a0_1
    ·rw [if_pos c9] at H; have c9b0 : (x6_1 == a0_1) = true := beq_iff_eq.mpr c9; have c9b1 : (x6_1 != a0_1) = false := bne_eq_false_iff_eq.mpr c9; clear c9; have H' := ak H; clear H; have hcz10_0 : wr.cell? ⟨gb368, 0, none⟩ = some (.slice A0_0 l0_0.length c0_0) := (blk_cell BK368.1 0).trans rfl; have hcz10_1 : wr.cell? ⟨gb368, 1, none⟩ = some (.int .i64 a0_1) := (blk_cell BK368.1 1).trans rfl; have hfz10_0 := blk_frozen BK368.1 0; have hfz10_1 := blk_frozen BK368.1 1
     go_wp2
     repeat (go_quiet (fail); try go_wp2)
     go_roundg k1
     case measure => have := HK1.1; omega
     case rel => exact ⟨(x4_1), (x5_1), (wrap64 (x6_1 + 1)), (rs_), (rs_), (rs_), H', ⟨by have := HK1.1; omega⟩, ⟨by (with_reducible repeat (first | refine blk_drewN ?_ _ | refine blk_drew ?_ | refine blk_alloc ?_ _)); exact BK368.1⟩, ⟨hq1_ HB.1 GE368.1⟩⟩
    ·rw [if_neg c9] at H; have c9b0 : (x6_1 == a0_1) = false := beq_eq_false_iff_ne.mpr c9; have c9b1 : (x6_1 != a0_1) = true := bne_iff_ne.mpr c9; have H' := ak H; clear H; have hcz11_0 : wr.cell? ⟨gb368, 0, none⟩ = some (.slice A0_0 l0_0.length c0_0) := (blk_cell BK368.1 0).trans rfl; have hcz11_1 : wr.cell? ⟨gb368, 1, none⟩ = some (.int .i64 a0_1) := (blk_cell BK368.1 1).trans rfl; have hfz11_0 := blk_frozen BK368.1 0; have hfz11_1 := blk_frozen BK368.1 1
     go_wp2
     repeat (go_quiet (fail); try go_wp2)
     go_loopg [7, 8] k1 (fun kq v7 v8 w' => ∃ (x7_2 : Int) (x8_2 : Int), v7 = .int .i64 x7_2 ∧ v8 = .int .i64 x8_2 ∧ Aside0 (taquinref25_Rank.l1 kq (l0_0.length : Int) x4_1 x5_1 x6_1 x7_2 x8_2 l0_0 a0_1 = some r) ∧ Aside0 (kq ≤ k1) ∧ Aside0 (w'.heap[gb368]? = some (.cells #[(.slice A0_0 l0_0.length c0_0), .int .i64 a0_1] 27 (0, 0))) ∧ Aside0 (Below w.heap.size w w'))
     case atStart => exact ⟨(0), (wrap64 (x6_1 + 1)), (rs_), (rs_), H', ⟨Nat.le_refl _⟩, ⟨by (with_reducible repeat (first | refine blk_drewN ?_ _ | refine blk_drew ?_ | refine blk_alloc ?_ _)); exact BK368.1⟩, ⟨hq1_ HB.1 GE368.1⟩⟩
     case round =>
      clear H'; (try clear p2); (try clear c6); (try clear p6); (try clear c8); (try clear c8b0); (try clear c9); (try clear c9b0); (try clear c9b1); (try clear hcz10_0); (try clear hcz10_1); (try clear hcz11_0); (try clear hcz11_1); (try clear hcz5_0); (try clear hcz5_1); (try clear hcz7_0); (try clear hcz7_1); (try clear hfz10_0); (try clear hfz10_1); (try clear hfz11_0); (try clear hfz11_1); (try clear hfz5_0); (try clear hfz5_1); (try clear hfz7_0); (try clear hfz7_1); (try clear p2); (try clear p6); obtain ⟨x7_2, x8_2, rfl, rfl, HA, HK2, BK368, HB⟩ := hrel
      cases gk with
      | zero => exact absurd HA.1 (by simp [taquinref25_Rank.l1])
      | succ k2 =>
       have H := HA.1; clear HA; simp only [taquinref25_Rank.l1] at H
       by_cases c12 : x8_2 < (l0_0.length : Int)
       ·rw [if_pos c12] at H; have c12b0 : decide (x8_2 < (l0_0.length : Int)) = true := decide_eq_true c12; clear c12
        by_cases c13 : x8_2 = a0_1
        ·rw [if_pos c13] at H; have c13b0 : (x8_2 == a0_1) = true := beq_iff_eq.mpr c13; have c13b1 : (x8_2 != a0_1) = false := bne_eq_false_iff_eq.mpr c13; clear c13; have H' := ak H; clear H; have hcz14_0 : wr.cell? ⟨gb368, 0, none⟩ = some (.slice A0_0 l0_0.length c0_0) := (blk_cell BK368.1 0).trans rfl; have hcz14_1 : wr.cell? ⟨gb368, 1, none⟩ = some (.int .i64 a0_1) := (blk_cell BK368.1 1).trans rfl; have hfz14_0 := blk_frozen BK368.1 0; have hfz14_1 := blk_frozen BK368.1 1
         go_wp2
         repeat (go_quiet (fail); try go_wp2)
         go_roundg k2
         case measure => have := HK1.1; have := HK2.1; omega
         case rel => exact ⟨(x7_2), (wrap64 (x8_2 + 1)), (rs_), (rs_), H', ⟨by have := HK1.1; have := HK2.1; omega⟩, ⟨by (with_reducible repeat (first | refine blk_drewN ?_ _ | refine blk_drew ?_ | refine blk_alloc ?_ _)); exact BK368.1⟩, ⟨hq1_ HB.1 GE368.1⟩⟩
        ·rw [if_neg c13] at H; have c13b0 : (x8_2 == a0_1) = false := beq_eq_false_iff_ne.mpr c13; have c13b1 : (x8_2 != a0_1) = true := bne_iff_ne.mpr c13; have H' := ak H; clear H; have hcz15_0 : wr.cell? ⟨gb368, 0, none⟩ = some (.slice A0_0 l0_0.length c0_0) := (blk_cell BK368.1 0).trans rfl; have hcz15_1 : wr.cell? ⟨gb368, 1, none⟩ = some (.int .i64 a0_1) := (blk_cell BK368.1 1).trans rfl; have hfz15_0 := blk_frozen BK368.1 0; have hfz15_1 := blk_frozen BK368.1 1
         go_wp2
         repeat (go_quiet (fail); try go_wp2)
         go_roundg k2
         case measure => have := HK1.1; have := HK2.1; omega
         case rel => exact ⟨(wrap64 (x7_2 + 1)), (wrap64 (x8_2 + 1)), (rs_), (rs_), H', ⟨by have := HK1.1; have := HK2.1; omega⟩, ⟨by (with_reducible repeat (first | refine blk_drewN ?_ _ | refine blk_drew ?_ | refine blk_alloc ?_ _)); exact BK368.1⟩, ⟨hq1_ HB.1 GE368.1⟩⟩
       ·rw [if_neg c12] at H; have c12b0 : decide (x8_2 < (l0_0.length : Int)) = false := decide_eq_false c12; clear c12
        by_cases c16 : 0 ≤ x6_1
        ·rw [if_pos c16] at H; have c16b0 : decide (0 ≤ x6_1) = true := decide_eq_true c16; clear c16
         by_cases c17 : x6_1 < (l0_0.length : Int)
         ·rw [if_pos c17] at H; have c17b0 : decide (x6_1 < (l0_0.length : Int)) = true := decide_eq_true c17; clear c17; obtain ⟨bq18, hbq18⟩ : ∃ b_ : Bool, b_ = (rdOf false l0_0 x6_1) := ⟨_, rfl⟩
          replace H : (if bq18 = true then (taquinref25_Rank.l0 k2 (l0_0.length : Int) (wrap64 (x4_1 - 1)) x5_1 (wrap64 (x6_1 + 1)) l0_0 a0_1) else ((taquinref25_Choose.f k2 x7_2 (wrap64 (x4_1 - 1))).bind fun t372 => (taquinref25_Rank.l0 k2 (l0_0.length : Int) x4_1 (wrap64 (x5_1 + t372)) (wrap64 (x6_1 + 1)) l0_0 a0_1))) = some r := by rw [← hbq18] at H; exact H
          have Nbq18 := ak hbq18; clear hbq18
          by_cases c19 : bq18 = true
          ·subst c19
           have H1 : (taquinref25_Rank.l0 k2 (l0_0.length : Int) (wrap64 (x4_1 - 1)) x5_1 (wrap64 (x6_1 + 1)) l0_0 a0_1) = some r := by rw [if_pos rfl] at H; exact H
           clear H; have H := H1; clear H1; have H' := ak H; clear H; have hcz20_0 : wr.cell? ⟨gb368, 0, none⟩ = some (.slice A0_0 l0_0.length c0_0) := (blk_cell BK368.1 0).trans rfl; have hcz20_1 : wr.cell? ⟨gb368, 1, none⟩ = some (.int .i64 a0_1) := (blk_cell BK368.1 1).trans rfl; have hfz20_0 := blk_frozen BK368.1 0; have hfz20_1 := blk_frozen BK368.1 1; have p371 : 0 ≤ (x6_1 : Int) := of_decide_eq_true (by assumption); have q371 : x6_1 < (l0_0.length : Int) := of_decide_eq_true (by assumption); obtain ⟨ad371, e371, hx371_0⟩ := Kd.at_bool HR0_0.1 x6_1 p371 q371; (try rw [← Nbq18.1] at hx371_0)
           cases e371
           replace hx371_0 := (HB.1.cell (World.block_lt_of_cell? w _ hx371_0)).trans hx371_0; replace p371 := eq_true p371; replace q371 := eq_true q371
           go_wp2
           repeat (go_quiet (fail); try go_wp2)
           go_roundg k2
           case measure => have := HK1.1; have := HK2.1; omega
           case rel => exact ⟨(wrap64 (x4_1 - 1)), (x5_1), (wrap64 (x6_1 + 1)), (rs_), (rs_), (rs_), H', ⟨by have := HK1.1; have := HK2.1; omega⟩, ⟨by (with_reducible repeat (first | refine blk_drewN ?_ _ | refine blk_drew ?_ | refine blk_alloc ?_ _)); exact BK368.1⟩, ⟨hq1_ HB.1 GE368.1⟩⟩
          ·replace c19 := Bool.eq_false_iff.mpr c19; subst c19
           have H1 : ((taquinref25_Choose.f k2 x7_2 (wrap64 (x4_1 - 1))).bind fun t372 => (taquinref25_Rank.l0 k2 (l0_0.length : Int) x4_1 (wrap64 (x5_1 + t372)) (wrap64 (x6_1 + 1)) l0_0 a0_1)) = some r := by rw [if_neg (show ¬ (false = true) by decide)] at H; exact H
           clear H; have H := H1; clear H1; replace H := Option.bind_eq_some_iff.mp H; obtain ⟨t372, A210, H⟩ := H
           replace H : (taquinref25_Rank.l0 k2 (l0_0.length : Int) x4_1 (wrap64 (x5_1 + t372)) (wrap64 (x6_1 + 1)) l0_0 a0_1) = some r := H
           have A21 := ak A210; clear A210; have H' := ak H; clear H; have hcz22_0 : wr.cell? ⟨gb368, 0, none⟩ = some (.slice A0_0 l0_0.length c0_0) := (blk_cell BK368.1 0).trans rfl; have hcz22_1 : wr.cell? ⟨gb368, 1, none⟩ = some (.int .i64 a0_1) := (blk_cell BK368.1 1).trans rfl; have hfz22_0 := blk_frozen BK368.1 0; have hfz22_1 := blk_frozen BK368.1 1; have p371 : 0 ≤ (x6_1 : Int) := of_decide_eq_true (by assumption); have q371 : x6_1 < (l0_0.length : Int) := of_decide_eq_true (by assumption); obtain ⟨ad371, e371, hx371_0⟩ := Kd.at_bool HR0_0.1 x6_1 p371 q371; (try rw [← Nbq18.1] at hx371_0)
           cases e371
           replace hx371_0 := (HB.1.cell (World.block_lt_of_cell? w _ hx371_0)).trans hx371_0; replace p371 := eq_true p371; replace q371 := eq_true q371
           go_wp2_with (first | (go_at_call 76; (with_reducible refine (taquinref25_Choose.calls k2 x7_2 (wrap64 (x4_1 - 1)) t372 _ A21.1).mono ?_); rintro e w' ⟨rfl, ⟨nd, rfl⟩⟩; (try first | exact ⟨rfl, _, World.drewN_drewN _ _ _⟩ | exact ⟨rfl, _, Eq.trans (World.drewN_drewN _ _ _) (congrArg (World.drewN _) (Nat.add_assoc _ _ _))⟩)))
           repeat (go_quiet (first | (go_at_call 76; (with_reducible refine (taquinref25_Choose.calls k2 x7_2 (wrap64 (x4_1 - 1)) t372 _ A21.1).mono ?_); rintro e w' ⟨rfl, ⟨nd, rfl⟩⟩; (try first | exact ⟨rfl, _, World.drewN_drewN _ _ _⟩ | exact ⟨rfl, _, Eq.trans (World.drewN_drewN _ _ _) (congrArg (World.drewN _) (Nat.add_assoc _ _ _))⟩))); try go_wp2_with (first | (go_at_call 76; (with_reducible refine (taquinref25_Choose.calls k2 x7_2 (wrap64 (x4_1 - 1)) t372 _ A21.1).mono ?_); rintro e w' ⟨rfl, ⟨nd, rfl⟩⟩; (try first | exact ⟨rfl, _, World.drewN_drewN _ _ _⟩ | exact ⟨rfl, _, Eq.trans (World.drewN_drewN _ _ _) (congrArg (World.drewN _) (Nat.add_assoc _ _ _))⟩))))
           go_roundg k2
           case measure => have := HK1.1; have := HK2.1; omega
           case rel => exact ⟨(x4_1), (wrap64 (x5_1 + t372)), (wrap64 (x6_1 + 1)), (rs_), (rs_), (rs_), H', ⟨by have := HK1.1; have := HK2.1; omega⟩, ⟨by (with_reducible repeat (first | refine blk_drewN ?_ _ | refine blk_drew ?_ | refine blk_alloc ?_ _)); exact BK368.1⟩, ⟨hq1_ HB.1 GE368.1⟩⟩
         ·rw [if_neg c17] at H; exact absurd H (by simp)
        ·rw [if_neg c16] at H; exact absurd H (by simp)
   ·rw [if_neg c8] at H; have c8b0 : decide (x6_1 < (l0_0.length : Int)) = false := decide_eq_false c8; clear c8; obtain rfl := Option.some.inj H
    go_wp2
    repeat (go_quiet (fail); try go_wp2)
    go_ret
    exact ⟨er_, hq1_ HB.1 GE368.1⟩
def taquinref25_Shifts.f (k : Nat) (a0_0 : Int) (a0_1 : Int) (a0_2 : Int) (l0_3 : List Int) (l0_4 : List Int) (l1 : List Int) (l2_0 : List Bool) (a2_1 : Int) : Option ((List (S51))) := (taquinref25_between.f k a0_0 a0_1 a0_2 l0_3 l0_4 l1 l2_0 a2_1 true).bind fun t426 => (some t426)
set_option maxHeartbeats 8000000 in
set_option maxRecDepth 100000 in
theorem taquinref25_Shifts.calls (k : Nat) (a0_0 : Int) (a0_1 : Int) (a0_2 : Int) (A0_3 : Option Addr) (c0_3 : Nat) (l0_3 : List Int) (A0_4 : Option Addr) (c0_4 : Nat) (l0_4 : List Int) (A1 : Option Addr) (c1 : Nat) (l1 : List Int) (A2_0 : Option Addr) (c2_0 : Nat) (l2_0 : List Bool) (a2_1 : Int) (r : List (S51)) (w : World) (hr0_3 : Kd.C (Kd.int .i64) w A0_3 l0_3.length l0_3) (hc0_3 : l0_3.length ≤ c0_3) (hr0_4 : Kd.C (Kd.int .i64) w A0_4 l0_4.length l0_4) (hc0_4 : l0_4.length ≤ c0_4) (hr1 : Kd.C (Kd.int .i64) w A1 l1.length l1) (hc1 : l1.length ≤ c1) (hr2_0 : Kd.C Kd.bool w A2_0 l2_0.length l2_0) (hc2_0 : l2_0.length ≤ c2_0) (h : taquinref25_Shifts.f k a0_0 a0_1 a0_2 l0_3 l0_4 l1 l2_0 a2_1 = some r) :
  Calls Try.prog 63 #[.agg #[.int .i64 a0_0, .int .i64 a0_1, .int .i64 a0_2, .slice A0_3 l0_3.length c0_3, .slice A0_4 l0_4.length c0_4], .slice A1 l1.length c1, .agg #[.slice A2_0 l2_0.length c2_0, .int .i64 a2_1]] w fun e w' => ∃ v0_ : Value, e = .returned (v0_) ∧ Kd.R k51 51 w' w.heap.size (fun _ => True) v0_ r ∧ Below w.heap.size w w' := by
 have hu24 := Try.underlying24; have hu27 := Try.underlying27; have HR0_3 := ak hr0_3; have HC0_3 := ak hc0_3; clear hr0_3 hc0_3; have HR0_4 := ak hr0_4; have HC0_4 := ak hc0_4; clear hr0_4 hc0_4; have HR1 := ak hr1; have HC1 := ak hc1; clear hr1 hc1; have HR2_0 := ak hr2_0; have HC2_0 := ak hc2_0; clear hr2_0 hc2_0; have HB := ak (Below.refl w.heap.size w); have H : ((taquinref25_between.f k a0_0 a0_1 a0_2 l0_3 l0_4 l1 l2_0 a2_1 true).bind fun t426 => (some t426)) = some r := h; clear h; replace H := Option.bind_eq_some_iff.mp H; obtain ⟨t426, A40, H⟩ := H
 replace H : (some t426) = some r := H
 have A4 := ak A40; clear A40; obtain rfl := Option.some.inj H
 go_enter Try.func63, Try.ntmps63
 go_wp2_with (first | ((with_reducible refine gate_dst (N := 3) rfl ?_); refine box_event ?hg (N := 3) ?hd (cs := #[.int .i64 a0_0, .int .i64 a0_1, .int .i64 a0_2, .slice A0_3 l0_3.length c0_3, .slice A0_4 l0_4.length c0_4]) (t := 24) ?hr ?_; (case hd => rfl); (case hg => rfl); (case hr => first | (go_simp; done) | (go_simp; rfl)); intro gb424 hg w5 hbox hb; have BK424 := ak (hbox); have GW424 := gw_ hg HB.1.size; have GE424 := gw_ hg HB.1.size; replace HB := ak (below_step HB.1 hb); clear hb hbox hg) | ((with_reducible refine gate_dst (N := 5) rfl ?_); refine box_event ?hg (N := 5) ?hd (cs := #[.slice A2_0 l2_0.length c2_0, .int .i64 a2_1]) (t := 27) ?hr ?_; (case hd => rfl); (case hg => rfl); (case hr => first | (go_simp; done) | (go_simp; rfl)); intro gb425 hg w6 hbox hb; have n0_ := ak (blk_below BK424.1 hb); have n1_ := ak (below_step HB.1 hb); have n2_ := ak (hbox); have n3_ := gw_ hg HB.1.size; have n4_ := gw_ hg HB.1.size; have n5_ := ak ((by rw [hg]; exact Nat.ne_of_lt (blk_lt BK424.1) : gb424 ≠ gb425)); have n6_ := ak ((by rw [hg]; exact Nat.ne_of_gt (blk_lt BK424.1) : gb425 ≠ gb424)); clear BK424 HB; have BK424 := n0_; have HB := n1_; have BK425 := n2_; have GW425 := n3_; have GE425 := n4_; have NB424_425 := n5_; have NB425_424 := n6_; clear n0_ n1_ n2_ n3_ n4_ n5_ n6_; clear hb hbox hg; have hnb7 := NB424_425.1; have hnc7 := NB425_424.1; obtain ⟨hcz8_0, hcz8_1, hcz8_2, hcz8_3, hcz8_4, hfz8_0, hfz8_1, hfz8_2, hfz8_3, hfz8_4⟩ := bk5 BK424.1; obtain ⟨hcz9_0, hcz9_1, hfz9_0, hfz9_1⟩ := bk2 BK425.1) | ((with_reducible refine gate_callee (f := 83) rfl ?_); refine goesL_ (some 10) rfl rfl Try.func83 (by kernel_rfl) rfl #[.agg #[.int .i64 a0_0, .int .i64 a0_1, .int .i64 a0_2, .slice A0_3 l0_3.length c0_3, .slice A0_4 l0_4.length c0_4], .slice A1 l1.length c1, .agg #[.slice A2_0 l2_0.length c2_0, .int .i64 a2_1], .bool true] rfl (sm_) ?_; (with_reducible refine (taquinref25_between.calls k a0_0 a0_1 a0_2 _ _ l0_3 _ _ l0_4 _ _ l1 _ _ l2_0 a2_1 true t426 _ ?side1 ?side2 ?side3 ?side4 ?side5 ?side6 ?side7 ?side8 A4.1).mono ?_); (case side1 => exact (Kd.C_below HR0_3.1 HB.1)); (case side2 => exact HC0_3.1); (case side3 => exact (Kd.C_below HR0_4.1 HB.1)); (case side4 => exact HC0_4.1); (case side5 => exact (Kd.C_below HR1.1 HB.1)); (case side6 => exact HC1.1); (case side7 => exact (Kd.C_below HR2_0.1 HB.1)); (case side8 => exact HC2_0.1); rintro e w10 ⟨v427, rfl, ho0, hb⟩; refine ⟨_, rfl, ?_⟩; replace BK424 := ak (blk_below BK424.1 hb); replace BK425 := ak (blk_below BK425.1 hb); have HO428 := ak (Kd.R_lower ho0 HB.1.size); replace HB := ak (below_step HB.1 hb); (try clear hb); (try clear ho0)))
 go_ret
 exact ⟨_, er_, by (with_reducible repeat (first | apply Kd.R_alloc | apply Kd.R_drewN | apply Kd.R_drew)); exact HO428.1, hq2_ HB.1 GE424.1 GE425.1⟩
end Go.Proofs.Ytogmjilaiopjmaa.P
end
