/- Lemmas for the row of this claim: contracts of the functions that it reaches, and plain laws about numbers and lists. -/
import Derived.Test.YtogmjilaiopjmaaSolves12
section
set_option linter.unusedVariables false
set_option linter.unusedSimpArgs false
namespace Go.Proofs.Ytogmjilaiopjmaa.P
open Go.RowKit Go.Proofs.YtogmjilaiopjmaaW.PrintWords Go.Proofs.YtogmjilaiopjmaaW.PrintLast Go.Proofs.YtogmjilaiopjmaaW.PrintMore
attribute [local go_sem] max2_int min2_int max_two min_two max_three min_three max_four min_four
set_option linter.unusedVariables false
set_option linter.unusedSimpArgs false
attribute [local go_sem high] eqA51
set_option maxHeartbeats 8000000 in
set_option maxRecDepth 100000 in
theorem taquinlaw26_PuzzleSolves.calls (k : Nat) (a0_0 : Int) (a0_1 : Int) (a0_2 : Int) (A0_3 : Option Addr) (c0_3 : Nat) (l0_3 : List Int) (A0_4 : Option Addr) (c0_4 : Nat) (l0_4 : List Int) (A1 : Option Addr) (c1 : Nat) (l1 : List Int) (P2_0_ : Nat → Prop) (A2_0 : Option Addr) (c2_0 : Nat) (l2_0 : List Bool) (a2_1 : Int) (a3 : Int) (w : World) (hr0_3 : Kd.C (Kd.int .i64) w A0_3 l0_3.length l0_3) (hc0_3 : l0_3.length ≤ c0_3) (hr0_4 : Kd.C (Kd.int .i64) w A0_4 l0_4.length l0_4) (hc0_4 : l0_4.length ≤ c0_4) (hr1 : Kd.C (Kd.int .i64) w A1 l1.length l1) (hc1 : l1.length ≤ c1) (hs2_0 : Kd.V Kd.bool 4 w w.heap.size (fun k_ => P2_0_ k_) (.slice A2_0 l2_0.length c2_0) l2_0) (h : taquinlaw26_PuzzleSolves.f k a0_0 a0_1 a0_2 l0_3 l0_4 l1 l2_0 a2_1 a3 = some true) :
  Calls Try.prog 5 #[.agg #[.int .i64 a0_0, .int .i64 a0_1, .int .i64 a0_2, .slice A0_3 l0_3.length c0_3, .slice A0_4 l0_4.length c0_4], .slice A1 l1.length c1, .agg #[.slice A2_0 l2_0.length c2_0, .int .i64 a2_1], .int .i64 a3] w fun e w' => e = .returned (.bool true) ∧ Below w.heap.size w w' := by
 have hu24 := Try.underlying24
 have hu27 := Try.underlying27
 have hu51 := Try.underlying51
 have HR0_3 := Aside0.mk hr0_3
 have HC0_3 := Aside0.mk hc0_3
 clear hr0_3 hc0_3
 have HR0_4 := Aside0.mk hr0_4
 have HC0_4 := Aside0.mk hc0_4
 clear hr0_4 hc0_4
 have HR1 := Aside0.mk hr1
 have HC1 := Aside0.mk hc1
 clear hr1 hc1
 have HO2_0 := Aside0.mk (show Kd.V Kd.bool 4 w w.heap.size (fun k_ => (P2_0_ k_ ∨ w.heap.size ≤ k_)) (.slice A2_0 l2_0.length c2_0) l2_0 from Kd.V_mono hs2_0 (fun k_ hk => .inl hk))
 have HB := Aside0.mk (Below.refl w.heap.size w)
 have H : ((taquinlaw26_small.f).bind fun t263 => ((taquinlaw26_fair.f k a0_0 a0_1 a0_2 l0_3 l0_4 l1 l2_0 a2_1).bind fun t264 => (if t264 = true then (taquinlaw26_PuzzleSolves.j0 k l1 a3 t263 (decide ((l1.length : Int) > 9)) a0_0 a0_1 a0_2 l0_3 l0_4 l2_0 a2_1) else (taquinlaw26_PuzzleSolves.j0 k l1 a3 t263 true a0_0 a0_1 a0_2 l0_3 l0_4 l2_0 a2_1)))) = some true := h
 clear h
 replace H := Option.bind_eq_some_iff.mp H
 obtain ⟨t263, A50, H⟩ := H
 replace H : ((taquinlaw26_fair.f k a0_0 a0_1 a0_2 l0_3 l0_4 l1 l2_0 a2_1).bind fun t264 => (if t264 = true then (taquinlaw26_PuzzleSolves.j0 k l1 a3 t263 (decide ((l1.length : Int) > 9)) a0_0 a0_1 a0_2 l0_3 l0_4 l2_0 a2_1) else (taquinlaw26_PuzzleSolves.j0 k l1 a3 t263 true a0_0 a0_1 a0_2 l0_3 l0_4 l2_0 a2_1))) = some true := H
 have A5 := Aside0.mk A50
 clear A50
 have HC6 := Aside0.mk H
 clear H
 go_enter Try.func5, Try.ntmps5
 go_upto_region 2 with (first | ((with_reducible refine gate_dst (N := 4) rfl ?_); (try (refine gate_guard (by rfl) ?_; dsimp only)); refine box_event ?hg (N := 4) ?hd (cs := #[.int .i64 a0_0, .int .i64 a0_1, .int .i64 a0_2, .slice A0_3 l0_3.length c0_3, .slice A0_4 l0_4.length c0_4]) (t := 24) ?hr ?_; (case hd => rfl); (case hg => rfl); (case hr => first | (go_simp; done) | (go_simp; rfl)); intro gb261 hg w7 hbox hb; have n0_ := Aside0.mk (Kd.V_below (Kd.V_elderB (by (with_reducible repeat (first | apply Kd.V_alloc | apply Kd.V_drewN | apply Kd.V_drew)); exact HO2_0.out) gb261 (Nat.le_of_eq hg.symm)) hb); have n1_ := Aside0.mk (below_step (by repeat (first | (with_reducible first | exact HB.out | apply below_alloc | apply pw_below_drewN | apply below_drew1) | exact HB.out)) hb); have n2_ := Aside0.mk (hbox); have n3_ := Aside0.mk ((by rw [hg]; exact (below_size (by repeat (first | (with_reducible first | exact HB.out | apply below_alloc | apply pw_below_drewN | apply below_drew1) | exact HB.out))) : w.heap.size ≤ gb261)); have n4_ := Aside0.mk ((by rw [hg]; exact (below_size (by repeat (first | (with_reducible first | exact HB.out | apply below_alloc | apply pw_below_drewN | apply below_drew1) | exact HB.out))) : w.heap.size ≤ gb261)); clear HO2_0; clear HB; have HO2_0 := n0_; have HB := n1_; have BK261 := n2_; have GW261 := n3_; have GE261 := n4_; clear n0_ n1_ n2_ n3_ n4_; clear hb hbox hg) | ((with_reducible refine gate_dst (N := 6) rfl ?_); (try (refine gate_guard (by rfl) ?_; dsimp only)); refine box_event ?hg (N := 6) ?hd (cs := #[.slice A2_0 l2_0.length c2_0, .int .i64 a2_1]) (t := 27) ?hr ?_; (case hd => rfl); (case hg => rfl); (case hr => first | (go_simp; done) | (go_simp; rfl)); intro gb262 hg w8 hbox hb; have n0_ := Aside0.mk (Kd.V_below (Kd.V_elderB (by (with_reducible repeat (first | apply Kd.V_alloc | apply Kd.V_drewN | apply Kd.V_drew)); exact HO2_0.out) gb262 (Nat.le_of_eq hg.symm)) hb); have n1_ := Aside0.mk (blk_below (g := gb261) (o := .cells #[.int .i64 a0_0, .int .i64 a0_1, .int .i64 a0_2, .slice A0_3 l0_3.length c0_3, .slice A0_4 l0_4.length c0_4] 24 (0, 0)) (by (with_reducible repeat (first | refine blk_drewN ?_ _ | refine blk_drew ?_ | refine blk_alloc ?_ _)); exact BK261.out) hb); have n2_ := Aside0.mk (below_step (by repeat (first | (with_reducible first | exact HB.out | apply below_alloc | apply pw_below_drewN | apply below_drew1 | refine below_set ?_ GE261.out) | exact HB.out)) hb); have n3_ := Aside0.mk (hbox); have n4_ := Aside0.mk ((by rw [hg]; exact (below_size (by repeat (first | (with_reducible first | exact HB.out | apply below_alloc | apply pw_below_drewN | apply below_drew1 | refine below_set ?_ GE261.out) | exact HB.out))) : w.heap.size ≤ gb262)); have n5_ := Aside0.mk ((by rw [hg]; exact (below_size (by repeat (first | (with_reducible first | exact HB.out | apply below_alloc | apply pw_below_drewN | apply below_drew1 | refine below_set ?_ GE261.out) | exact HB.out))) : w.heap.size ≤ gb262)); have n6_ := Aside0.mk ((by rw [hg]; exact Nat.ne_of_lt (blk_lt (g := gb261) (o := .cells #[.int .i64 a0_0, .int .i64 a0_1, .int .i64 a0_2, .slice A0_3 l0_3.length c0_3, .slice A0_4 l0_4.length c0_4] 24 (0, 0)) (by (with_reducible repeat (first | refine blk_drewN ?_ _ | refine blk_drew ?_ | refine blk_alloc ?_ _)); exact BK261.out)) : gb261 ≠ gb262)); have n7_ := Aside0.mk ((by rw [hg]; exact Nat.ne_of_gt (blk_lt (g := gb261) (o := .cells #[.int .i64 a0_0, .int .i64 a0_1, .int .i64 a0_2, .slice A0_3 l0_3.length c0_3, .slice A0_4 l0_4.length c0_4] 24 (0, 0)) (by (with_reducible repeat (first | refine blk_drewN ?_ _ | refine blk_drew ?_ | refine blk_alloc ?_ _)); exact BK261.out)) : gb262 ≠ gb261)); clear HO2_0; clear BK261; clear HB; have HO2_0 := n0_; have BK261 := n1_; have HB := n2_; have BK262 := n3_; have GW262 := n4_; have GE262 := n5_; have NB261_262 := n6_; have NB262_261 := n7_; clear n0_ n1_ n2_ n3_ n4_ n5_ n6_ n7_; clear hb hbox hg) | ((with_reducible refine gate_callee (f := 14) rfl ?_); refine goesL_ (some 24) rfl rfl Try.func14 (by kernel_rfl) rfl #[] rfl (by (try simp only [List.map_toArray, List.map_cons, List.map_nil]); first | done | rfl | (simp only [List.length_drop, List.length_take]; rfl)) ?_; (with_reducible refine (taquinlaw26_small.calls  t263 _ A5.out).mono ?_); rintro e w9 ⟨rfl, hb⟩; refine ⟨_, rfl, ?_⟩; have n0_ := Aside0.mk (Kd.V_below (by (with_reducible repeat (first | apply Kd.V_alloc | apply Kd.V_drewN | apply Kd.V_drew)); exact HO2_0.out) hb); have n1_ := Aside0.mk (blk_below (g := gb261) (o := .cells #[.int .i64 a0_0, .int .i64 a0_1, .int .i64 a0_2, .slice A0_3 l0_3.length c0_3, .slice A0_4 l0_4.length c0_4] 24 (0, 0)) (by (with_reducible repeat (first | refine blk_drewN ?_ _ | refine blk_drew ?_ | refine blk_alloc ?_ _)); exact BK261.out) hb); have n2_ := Aside0.mk (blk_below (g := gb262) (o := .cells #[.slice A2_0 l2_0.length c2_0, .int .i64 a2_1] 27 (0, 0)) (by (with_reducible repeat (first | refine blk_drewN ?_ _ | refine blk_drew ?_ | refine blk_alloc ?_ _)); exact BK262.out) hb); have n3_ := Aside0.mk (below_step (by repeat (first | (with_reducible first | exact HB.out | apply below_alloc | apply pw_below_drewN | apply below_drew1 | refine below_set ?_ GE261.out | refine below_set ?_ GE262.out) | exact HB.out)) hb); clear HO2_0; clear BK261; clear BK262; clear HB; have HO2_0 := n0_; have BK261 := n1_; have BK262 := n2_; have HB := n3_; clear n0_ n1_ n2_ n3_; (try clear hb); (try clear hb2); (try clear hk); (try clear hi)))
 (try simp only [Act.put, List.setIfInBounds_toArray, List.set_cons_zero, List.set_cons_succ])
 go_cut [34] (fun v34 wc => ∃ (kq : Nat) (x34_5 : Bool), v34 = .bool x34_5 ∧ Aside0 (taquinlaw26_PuzzleSolves.j0 kq l1 a3 t263 x34_5 a0_0 a0_1 a0_2 l0_3 l0_4 l2_0 a2_1 = some true) ∧ Aside0 (kq ≤ k) ∧ Aside0 (Kd.V Kd.bool 4 wc w.heap.size (fun k_ => (P2_0_ k_ ∨ w.heap.size ≤ k_) ∧ k_ ≠ gb261 ∧ k_ ≠ gb262) (.slice A2_0 l2_0.length c2_0) l2_0) ∧ Aside0 (wc.heap[gb261]? = some (.cells #[.int .i64 a0_0, .int .i64 a0_1, .int .i64 a0_2, (.slice A0_3 l0_3.length c0_3), (.slice A0_4 l0_4.length c0_4)] 24 (0, 0))) ∧ Aside0 (wc.heap[gb262]? = some (.cells #[(.slice A2_0 l2_0.length c2_0), .int .i64 a2_1] 27 (0, 0))) ∧ Aside0 (Below w.heap.size w wc))
 case first => as_aux_lemma =>
  have H := HC6.out
  clear HC6
  replace H := Option.bind_eq_some_iff.mp H
  obtain ⟨t264, A100, H⟩ := H
  replace H : (if t264 = true then (taquinlaw26_PuzzleSolves.j0 k l1 a3 t263 (decide ((l1.length : Int) > 9)) a0_0 a0_1 a0_2 l0_3 l0_4 l2_0 a2_1) else (taquinlaw26_PuzzleSolves.j0 k l1 a3 t263 true a0_0 a0_1 a0_2 l0_3 l0_4 l2_0 a2_1)) = some true := H
  have A10 := Aside0.mk A100
  clear A100
  by_cases c11 : t264 = true
  ·subst c11
   have H1 : (taquinlaw26_PuzzleSolves.j0 k l1 a3 t263 (decide ((l1.length : Int) > 9)) a0_0 a0_1 a0_2 l0_3 l0_4 l2_0 a2_1) = some true := by rw [if_pos rfl] at H; exact H
   clear H
   have H := H1
   clear H1
   have H' := Aside0.mk H
   clear H
   have hnb12 := NB261_262.out
   have hnc12 := NB262_261.out
   have hcz13_0 : w9.cell? ⟨gb261, 0, none⟩ = some (.int .i64 a0_0) := (blk_cell BK261.out 0).trans rfl
   have hcz13_1 : w9.cell? ⟨gb261, 1, none⟩ = some (.int .i64 a0_1) := (blk_cell BK261.out 1).trans rfl
   have hcz13_2 : w9.cell? ⟨gb261, 2, none⟩ = some (.int .i64 a0_2) := (blk_cell BK261.out 2).trans rfl
   have hcz13_3 : w9.cell? ⟨gb261, 3, none⟩ = some (.slice A0_3 l0_3.length c0_3) := (blk_cell BK261.out 3).trans rfl
   have hcz13_4 : w9.cell? ⟨gb261, 4, none⟩ = some (.slice A0_4 l0_4.length c0_4) := (blk_cell BK261.out 4).trans rfl
   have hfz13_0 := blk_frozen BK261.out 0
   have hfz13_1 := blk_frozen BK261.out 1
   have hfz13_2 := blk_frozen BK261.out 2
   have hfz13_3 := blk_frozen BK261.out 3
   have hfz13_4 := blk_frozen BK261.out 4
   have hcz14_0 : w9.cell? ⟨gb262, 0, none⟩ = some (.slice A2_0 l2_0.length c2_0) := (blk_cell BK262.out 0).trans rfl
   have hcz14_1 : w9.cell? ⟨gb262, 1, none⟩ = some (.int .i64 a2_1) := (blk_cell BK262.out 1).trans rfl
   have hfz14_0 := blk_frozen BK262.out 0
   have hfz14_1 := blk_frozen BK262.out 1
   go_wp2_with (first | ((with_reducible refine gate_callee (f := 15) rfl ?_); refine goesL_ (some 28) rfl rfl Try.func15 (by kernel_rfl) rfl #[.agg #[.int .i64 a0_0, .int .i64 a0_1, .int .i64 a0_2, .slice A0_3 l0_3.length c0_3, .slice A0_4 l0_4.length c0_4], .slice A1 l1.length c1, .agg #[.slice A2_0 l2_0.length c2_0, .int .i64 a2_1]] rfl (by (try simp only [List.map_toArray, List.map_cons, List.map_nil]); first | done | rfl | (simp only [List.length_drop, List.length_take]; rfl)) ?_; (with_reducible refine (taquinlaw26_fair.calls k a0_0 a0_1 a0_2 _ _ l0_3 _ _ l0_4 _ _ l1 _ _ l2_0 a2_1 true _ ?side1 ?side2 ?side3 ?side4 ?side5 ?side6 ?side7 ?side8 A10.out).mono ?_); (case side1 => repeat (first | exact (Kd.C_below HR0_3.out HB.out) | (with_reducible refine Kd.C_alloc ?_ _) | (with_reducible refine Kd.C_drewN ?_ _) | (with_reducible refine Kd.C_drew ?_))); (case side2 => exact HC0_3.out); (case side3 => repeat (first | exact (Kd.C_below HR0_4.out HB.out) | (with_reducible refine Kd.C_alloc ?_ _) | (with_reducible refine Kd.C_drewN ?_ _) | (with_reducible refine Kd.C_drew ?_))); (case side4 => exact HC0_4.out); (case side5 => repeat (first | exact (Kd.C_below HR1.out HB.out) | (with_reducible refine Kd.C_alloc ?_ _) | (with_reducible refine Kd.C_drewN ?_ _) | (with_reducible refine Kd.C_drew ?_))); (case side6 => exact HC1.out); (case side7 => repeat (first | exact (Kd.V_reads' HO2_0.out).2.2 | (with_reducible refine Kd.C_alloc ?_ _) | (with_reducible refine Kd.C_drewN ?_ _) | (with_reducible refine Kd.C_drew ?_))); (case side8 => exact (Kd.V_reads' HO2_0.out).2.1); rintro e w15 ⟨rfl, hb⟩; refine ⟨_, rfl, ?_⟩; have n0_ := Aside0.mk (Kd.V_below (by (with_reducible repeat (first | apply Kd.V_alloc | apply Kd.V_drewN | apply Kd.V_drew)); exact HO2_0.out) hb); have n1_ := Aside0.mk (blk_below (g := gb261) (o := .cells #[.int .i64 a0_0, .int .i64 a0_1, .int .i64 a0_2, .slice A0_3 l0_3.length c0_3, .slice A0_4 l0_4.length c0_4] 24 (0, 0)) (by (with_reducible repeat (first | refine blk_drewN ?_ _ | refine blk_drew ?_ | refine blk_alloc ?_ _)); exact BK261.out) hb); have n2_ := Aside0.mk (blk_below (g := gb262) (o := .cells #[.slice A2_0 l2_0.length c2_0, .int .i64 a2_1] 27 (0, 0)) (by (with_reducible repeat (first | refine blk_drewN ?_ _ | refine blk_drew ?_ | refine blk_alloc ?_ _)); exact BK262.out) hb); have n3_ := Aside0.mk (below_step (by repeat (first | (with_reducible first | exact HB.out | apply below_alloc | apply pw_below_drewN | apply below_drew1 | refine below_set ?_ GE261.out | refine below_set ?_ GE262.out) | exact HB.out)) hb); clear HO2_0; clear BK261; clear BK262; clear HB; have HO2_0 := n0_; have BK261 := n1_; have BK262 := n2_; have HB := n3_; clear n0_ n1_ n2_ n3_; (try clear hb); (try clear hb2); (try clear hk); (try clear hi)))
   go_meet
   case rel => exact ⟨_, (decide ((l1.length : Int) > 9)), (by first | rfl | (simp; done) | (simp [*]; done)), H', ⟨by first | omega | exact Nat.le_refl _⟩, ⟨by (with_reducible repeat (first | apply Kd.V_alloc | apply Kd.V_drewN | apply Kd.V_drew)); exact Kd.V_mono HO2_0.out (fun _ hk => ⟨hk.1.1, ⟨hk.1.2, hk.2⟩⟩)⟩, ⟨by (with_reducible repeat (first | refine blk_drewN ?_ _ | refine blk_drew ?_ | refine blk_alloc ?_ _)); exact BK261.out⟩, ⟨by (with_reducible repeat (first | refine blk_drewN ?_ _ | refine blk_drew ?_ | refine blk_alloc ?_ _)); exact BK262.out⟩, ⟨by repeat (first | (with_reducible first | exact HB.out | apply below_alloc | apply pw_below_drewN | apply below_drew1 | refine below_set ?_ GE261.out | refine below_set ?_ GE262.out) | exact HB.out)⟩⟩
  ·replace c11 := Bool.eq_false_iff.mpr c11
   subst c11
   have H1 : (taquinlaw26_PuzzleSolves.j0 k l1 a3 t263 true a0_0 a0_1 a0_2 l0_3 l0_4 l2_0 a2_1) = some true := by rw [if_neg (show ¬ (false = true) by decide)] at H; exact H
   clear H
   have H := H1
   clear H1
   have H' := Aside0.mk H
   clear H
   have hnb16 := NB261_262.out
   have hnc16 := NB262_261.out
   have hcz17_0 : w9.cell? ⟨gb261, 0, none⟩ = some (.int .i64 a0_0) := (blk_cell BK261.out 0).trans rfl
   have hcz17_1 : w9.cell? ⟨gb261, 1, none⟩ = some (.int .i64 a0_1) := (blk_cell BK261.out 1).trans rfl
   have hcz17_2 : w9.cell? ⟨gb261, 2, none⟩ = some (.int .i64 a0_2) := (blk_cell BK261.out 2).trans rfl
   have hcz17_3 : w9.cell? ⟨gb261, 3, none⟩ = some (.slice A0_3 l0_3.length c0_3) := (blk_cell BK261.out 3).trans rfl
   have hcz17_4 : w9.cell? ⟨gb261, 4, none⟩ = some (.slice A0_4 l0_4.length c0_4) := (blk_cell BK261.out 4).trans rfl
   have hfz17_0 := blk_frozen BK261.out 0
   have hfz17_1 := blk_frozen BK261.out 1
   have hfz17_2 := blk_frozen BK261.out 2
   have hfz17_3 := blk_frozen BK261.out 3
   have hfz17_4 := blk_frozen BK261.out 4
   have hcz18_0 : w9.cell? ⟨gb262, 0, none⟩ = some (.slice A2_0 l2_0.length c2_0) := (blk_cell BK262.out 0).trans rfl
   have hcz18_1 : w9.cell? ⟨gb262, 1, none⟩ = some (.int .i64 a2_1) := (blk_cell BK262.out 1).trans rfl
   have hfz18_0 := blk_frozen BK262.out 0
   have hfz18_1 := blk_frozen BK262.out 1
   go_wp2_with (first | ((with_reducible refine gate_callee (f := 15) rfl ?_); refine goesL_ (some 28) rfl rfl Try.func15 (by kernel_rfl) rfl #[.agg #[.int .i64 a0_0, .int .i64 a0_1, .int .i64 a0_2, .slice A0_3 l0_3.length c0_3, .slice A0_4 l0_4.length c0_4], .slice A1 l1.length c1, .agg #[.slice A2_0 l2_0.length c2_0, .int .i64 a2_1]] rfl (by (try simp only [List.map_toArray, List.map_cons, List.map_nil]); first | done | rfl | (simp only [List.length_drop, List.length_take]; rfl)) ?_; (with_reducible refine (taquinlaw26_fair.calls k a0_0 a0_1 a0_2 _ _ l0_3 _ _ l0_4 _ _ l1 _ _ l2_0 a2_1 false _ ?side1 ?side2 ?side3 ?side4 ?side5 ?side6 ?side7 ?side8 A10.out).mono ?_); (case side1 => repeat (first | exact (Kd.C_below HR0_3.out HB.out) | (with_reducible refine Kd.C_alloc ?_ _) | (with_reducible refine Kd.C_drewN ?_ _) | (with_reducible refine Kd.C_drew ?_))); (case side2 => exact HC0_3.out); (case side3 => repeat (first | exact (Kd.C_below HR0_4.out HB.out) | (with_reducible refine Kd.C_alloc ?_ _) | (with_reducible refine Kd.C_drewN ?_ _) | (with_reducible refine Kd.C_drew ?_))); (case side4 => exact HC0_4.out); (case side5 => repeat (first | exact (Kd.C_below HR1.out HB.out) | (with_reducible refine Kd.C_alloc ?_ _) | (with_reducible refine Kd.C_drewN ?_ _) | (with_reducible refine Kd.C_drew ?_))); (case side6 => exact HC1.out); (case side7 => repeat (first | exact (Kd.V_reads' HO2_0.out).2.2 | (with_reducible refine Kd.C_alloc ?_ _) | (with_reducible refine Kd.C_drewN ?_ _) | (with_reducible refine Kd.C_drew ?_))); (case side8 => exact (Kd.V_reads' HO2_0.out).2.1); rintro e w19 ⟨rfl, hb⟩; refine ⟨_, rfl, ?_⟩; have n0_ := Aside0.mk (Kd.V_below (by (with_reducible repeat (first | apply Kd.V_alloc | apply Kd.V_drewN | apply Kd.V_drew)); exact HO2_0.out) hb); have n1_ := Aside0.mk (blk_below (g := gb261) (o := .cells #[.int .i64 a0_0, .int .i64 a0_1, .int .i64 a0_2, .slice A0_3 l0_3.length c0_3, .slice A0_4 l0_4.length c0_4] 24 (0, 0)) (by (with_reducible repeat (first | refine blk_drewN ?_ _ | refine blk_drew ?_ | refine blk_alloc ?_ _)); exact BK261.out) hb); have n2_ := Aside0.mk (blk_below (g := gb262) (o := .cells #[.slice A2_0 l2_0.length c2_0, .int .i64 a2_1] 27 (0, 0)) (by (with_reducible repeat (first | refine blk_drewN ?_ _ | refine blk_drew ?_ | refine blk_alloc ?_ _)); exact BK262.out) hb); have n3_ := Aside0.mk (below_step (by repeat (first | (with_reducible first | exact HB.out | apply below_alloc | apply pw_below_drewN | apply below_drew1 | refine below_set ?_ GE261.out | refine below_set ?_ GE262.out) | exact HB.out)) hb); clear HO2_0; clear BK261; clear BK262; clear HB; have HO2_0 := n0_; have BK261 := n1_; have BK262 := n2_; have HB := n3_; clear n0_ n1_ n2_ n3_; (try clear hb); (try clear hb2); (try clear hk); (try clear hi)))
   go_meet
   case rel => exact ⟨_, (true), (by first | rfl | (simp; done) | (simp [*]; done)), H', ⟨by first | omega | exact Nat.le_refl _⟩, ⟨by (with_reducible repeat (first | apply Kd.V_alloc | apply Kd.V_drewN | apply Kd.V_drew)); exact Kd.V_mono HO2_0.out (fun _ hk => ⟨hk.1.1, ⟨hk.1.2, hk.2⟩⟩)⟩, ⟨by (with_reducible repeat (first | refine blk_drewN ?_ _ | refine blk_drew ?_ | refine blk_alloc ?_ _)); exact BK261.out⟩, ⟨by (with_reducible repeat (first | refine blk_drewN ?_ _ | refine blk_drew ?_ | refine blk_alloc ?_ _)); exact BK262.out⟩, ⟨by repeat (first | (with_reducible first | exact HB.out | apply below_alloc | apply pw_below_drewN | apply below_drew1 | refine below_set ?_ GE261.out | refine below_set ?_ GE262.out) | exact HB.out)⟩⟩
 case rest => as_aux_lemma =>
  clear HC6
  try clear c1
  try clear c2
  try clear p2
  try clear c5
  try clear c11
  try clear c12
  try clear c14
  try clear c15
  try clear c16
  try clear hcz13_0
  try clear hcz13_1
  try clear hcz13_2
  try clear hcz13_3
  try clear hcz13_4
  try clear hcz14_0
  try clear hcz14_1
  try clear hcz17_0
  try clear hcz17_1
  try clear hcz17_2
  try clear hcz17_3
  try clear hcz17_4
  try clear hcz18_0
  try clear hcz18_1
  try clear hfz13_0
  try clear hfz13_1
  try clear hfz13_2
  try clear hfz13_3
  try clear hfz13_4
  try clear hfz14_0
  try clear hfz14_1
  try clear hfz17_0
  try clear hfz17_1
  try clear hfz17_2
  try clear hfz17_3
  try clear hfz17_4
  try clear hfz18_0
  try clear hfz18_1
  obtain ⟨kq, x34_5, rfl, HA, HJ5, HO_263000, BK261, BK262, HB⟩ := hcut
  cases kq with
  | zero => exact absurd HA.out (by simp [taquinlaw26_PuzzleSolves.j0])
  | succ kj5 =>
   have H := HA.out
   clear HA
   simp only [taquinlaw26_PuzzleSolves.j0] at H
   by_cases c20 : x34_5 = true
   ·subst c20
    have H1 : (some t263) = some true := by rw [if_pos rfl] at H; exact H
    clear H
    have H := H1
    clear H1
    have hr_ := Option.some.inj H
    go_wp2
    go_ret
    exact ⟨by first | rfl | (simp [errW_none, errW_some] <;> rfl) | (simp [*, errW_none, errW_some] <;> rfl), by repeat (first | (with_reducible first | exact HB.out | apply below_alloc | apply pw_below_drewN | apply below_drew1 | refine below_set ?_ GE261.out | refine below_set ?_ GE262.out) | exact HB.out)⟩
   ·replace c20 := Bool.eq_false_iff.mpr c20
    subst c20
    have H1 : ((layout_Shelves.f kj5 l2_0 a2_1).bind fun t265 => ((puzzle_Table.f a0_0 a0_1 a0_2 l0_3 l0_4 l1 t265 a3).bind fun bt266 => ((puzzle_Least.f kj5 a0_0 a0_1 a0_2 l0_3 l0_4 l1 l2_0 a2_1 a3).bind fun bt270 => ((puzzle_Solve.f kj5 a0_0 a0_1 a0_2 l0_3 l0_4 l1 l2_0 a2_1 a3).bind fun bt272 => (if bt270.2 = bt272.2 then (if bt270.2 = 0 then (taquinlaw26_PuzzleSolves.j1 kj5 l1 a3 t263 bt266.1 bt266.2 bt270.1 bt270.2 bt272.1 false a0_0 a0_1 a0_2 l0_3 l0_4 l2_0 a2_1) else (if bt270.1 = 0 then (taquinlaw26_PuzzleSolves.j1 kj5 l1 a3 t263 bt266.1 bt266.2 bt270.1 bt270.2 bt272.1 ((bt272.1.length : Int) != 0) a0_0 a0_1 a0_2 l0_3 l0_4 l2_0 a2_1) else (taquinlaw26_PuzzleSolves.j1 kj5 l1 a3 t263 bt266.1 bt266.2 bt270.1 bt270.2 bt272.1 true a0_0 a0_1 a0_2 l0_3 l0_4 l2_0 a2_1))) else (taquinlaw26_PuzzleSolves.j1 kj5 l1 a3 t263 bt266.1 bt266.2 bt270.1 bt270.2 bt272.1 true a0_0 a0_1 a0_2 l0_3 l0_4 l2_0 a2_1)))))) = some true := by rw [if_neg (show ¬ (false = true) by decide)] at H; exact H
    clear H
    have H := H1
    clear H1
    replace H := Option.bind_eq_some_iff.mp H
    obtain ⟨t265, A210, H⟩ := H
    replace H : ((puzzle_Table.f a0_0 a0_1 a0_2 l0_3 l0_4 l1 t265 a3).bind fun bt266 => ((puzzle_Least.f kj5 a0_0 a0_1 a0_2 l0_3 l0_4 l1 l2_0 a2_1 a3).bind fun bt270 => ((puzzle_Solve.f kj5 a0_0 a0_1 a0_2 l0_3 l0_4 l1 l2_0 a2_1 a3).bind fun bt272 => (if bt270.2 = bt272.2 then (if bt270.2 = 0 then (taquinlaw26_PuzzleSolves.j1 kj5 l1 a3 t263 bt266.1 bt266.2 bt270.1 bt270.2 bt272.1 false a0_0 a0_1 a0_2 l0_3 l0_4 l2_0 a2_1) else (if bt270.1 = 0 then (taquinlaw26_PuzzleSolves.j1 kj5 l1 a3 t263 bt266.1 bt266.2 bt270.1 bt270.2 bt272.1 ((bt272.1.length : Int) != 0) a0_0 a0_1 a0_2 l0_3 l0_4 l2_0 a2_1) else (taquinlaw26_PuzzleSolves.j1 kj5 l1 a3 t263 bt266.1 bt266.2 bt270.1 bt270.2 bt272.1 true a0_0 a0_1 a0_2 l0_3 l0_4 l2_0 a2_1))) else (taquinlaw26_PuzzleSolves.j1 kj5 l1 a3 t263 bt266.1 bt266.2 bt270.1 bt270.2 bt272.1 true a0_0 a0_1 a0_2 l0_3 l0_4 l2_0 a2_1))))) = some true := H
    have A21 := Aside0.mk A210
    clear A210
    replace H := Option.bind_eq_some_iff.mp H
    obtain ⟨⟨t266, t269⟩, A220, H⟩ := H
    replace H : ((puzzle_Least.f kj5 a0_0 a0_1 a0_2 l0_3 l0_4 l1 l2_0 a2_1 a3).bind fun bt270 => ((puzzle_Solve.f kj5 a0_0 a0_1 a0_2 l0_3 l0_4 l1 l2_0 a2_1 a3).bind fun bt272 => (if bt270.2 = bt272.2 then (if bt270.2 = 0 then (taquinlaw26_PuzzleSolves.j1 kj5 l1 a3 t263 t266 t269 bt270.1 bt270.2 bt272.1 false a0_0 a0_1 a0_2 l0_3 l0_4 l2_0 a2_1) else (if bt270.1 = 0 then (taquinlaw26_PuzzleSolves.j1 kj5 l1 a3 t263 t266 t269 bt270.1 bt270.2 bt272.1 ((bt272.1.length : Int) != 0) a0_0 a0_1 a0_2 l0_3 l0_4 l2_0 a2_1) else (taquinlaw26_PuzzleSolves.j1 kj5 l1 a3 t263 t266 t269 bt270.1 bt270.2 bt272.1 true a0_0 a0_1 a0_2 l0_3 l0_4 l2_0 a2_1))) else (taquinlaw26_PuzzleSolves.j1 kj5 l1 a3 t263 t266 t269 bt270.1 bt270.2 bt272.1 true a0_0 a0_1 a0_2 l0_3 l0_4 l2_0 a2_1)))) = some true := H
    have A22 := Aside0.mk A220
    clear A220
    replace H := Option.bind_eq_some_iff.mp H
    obtain ⟨⟨t270, t271⟩, A230, H⟩ := H
    replace H : ((puzzle_Solve.f kj5 a0_0 a0_1 a0_2 l0_3 l0_4 l1 l2_0 a2_1 a3).bind fun bt272 => (if t271 = bt272.2 then (if t271 = 0 then (taquinlaw26_PuzzleSolves.j1 kj5 l1 a3 t263 t266 t269 t270 t271 bt272.1 false a0_0 a0_1 a0_2 l0_3 l0_4 l2_0 a2_1) else (if t270 = 0 then (taquinlaw26_PuzzleSolves.j1 kj5 l1 a3 t263 t266 t269 t270 t271 bt272.1 ((bt272.1.length : Int) != 0) a0_0 a0_1 a0_2 l0_3 l0_4 l2_0 a2_1) else (taquinlaw26_PuzzleSolves.j1 kj5 l1 a3 t263 t266 t269 t270 t271 bt272.1 true a0_0 a0_1 a0_2 l0_3 l0_4 l2_0 a2_1))) else (taquinlaw26_PuzzleSolves.j1 kj5 l1 a3 t263 t266 t269 t270 t271 bt272.1 true a0_0 a0_1 a0_2 l0_3 l0_4 l2_0 a2_1))) = some true := H
    have A23 := Aside0.mk A230
    clear A230
    replace H := Option.bind_eq_some_iff.mp H
    obtain ⟨⟨t272, t275⟩, A240, H⟩ := H
    replace H : (if t271 = t275 then (if t271 = 0 then (taquinlaw26_PuzzleSolves.j1 kj5 l1 a3 t263 t266 t269 t270 t271 t272 false a0_0 a0_1 a0_2 l0_3 l0_4 l2_0 a2_1) else (if t270 = 0 then (taquinlaw26_PuzzleSolves.j1 kj5 l1 a3 t263 t266 t269 t270 t271 t272 ((t272.length : Int) != 0) a0_0 a0_1 a0_2 l0_3 l0_4 l2_0 a2_1) else (taquinlaw26_PuzzleSolves.j1 kj5 l1 a3 t263 t266 t269 t270 t271 t272 true a0_0 a0_1 a0_2 l0_3 l0_4 l2_0 a2_1))) else (taquinlaw26_PuzzleSolves.j1 kj5 l1 a3 t263 t266 t269 t270 t271 t272 true a0_0 a0_1 a0_2 l0_3 l0_4 l2_0 a2_1)) = some true := H
    have A24 := Aside0.mk A240
    clear A240
    have HC25 := Aside0.mk H
    clear H
    try go_wp2
    have n0_ := Aside0.mk (Kd.V_drew HO_263000.out)
    have n1_ := Aside0.mk (blk_drew BK261.out)
    have n2_ := Aside0.mk (blk_drew BK262.out)
    have n3_ := Aside0.mk (below_drew1 HB.out)
    clear HO_263000
    clear BK261
    clear BK262
    clear HB
    have HO_263000 := n0_
    have BK261 := n1_
    have BK262 := n2_
    have HB := n3_
    clear n0_ n1_ n2_ n3_
    refine start_ (n := 11) (S := fun w' => w'.cell? ⟨gb261, 0, none⟩ = some (.int .i64 a0_0) ∧ w'.cell? ⟨gb261, 1, none⟩ = some (.int .i64 a0_1) ∧ w'.cell? ⟨gb261, 2, none⟩ = some (.int .i64 a0_2) ∧ w'.cell? ⟨gb261, 3, none⟩ = some (.slice A0_3 l0_3.length c0_3) ∧ w'.cell? ⟨gb261, 4, none⟩ = some (.slice A0_4 l0_4.length c0_4) ∧ w'.cell? ⟨gb262, 0, none⟩ = some (.slice A2_0 l2_0.length c2_0) ∧ w'.cell? ⟨gb262, 1, none⟩ = some (.int .i64 a2_1)) (ds := []) #[false, false, false, false, false, false, false, false, false, false, false] (by kernel_rfl) rfl rfl ⟨(blk_cell BK261.out 0).trans rfl, (blk_cell BK261.out 1).trans rfl, (blk_cell BK261.out 2).trans rfl, (blk_cell BK261.out 3).trans rfl, (blk_cell BK261.out 4).trans rfl, (blk_cell BK262.out 0).trans rfl, (blk_cell BK262.out 1).trans rfl⟩ (fun hHeld => ?_); refine with_tabW taquinlaw26_PuzzleSolves.tab4 taquinlaw26_PuzzleSolves.bits4 (fun HT_ HW_ => ?_)
    generalize wc.drew = w26 at HO_263000 BK261 BK262 HB hHeld ⊢
    refine pure_ (i := 1) (N := some 38) (v := ?_) (a' := ?_) #[false, true, false, false, false, false, false, false, false, false, false] rfl rfl (any_of HT_.out (by kernel_rfl)) (fun _ _ _ h => h) (Or.inl ⟨by rfl, ?_⟩) ?_ ?_
    rotate_left
    ·intro w'
     go_simp
     with_reducible rfl
    rotate_left
    ·simp only [Act.put, List.setIfInBounds_toArray, List.set_cons_zero, List.set_cons_succ, i64_w, i32_w]
     rfl
    refine pure_ (i := 4) (N := some 41) (v := ?_) (a' := ?_) #[false, true, false, false, true, false, false, false, false, false, false] rfl rfl (any_of HT_.out (by kernel_rfl)) (fun _ _ _ h => h) (Or.inl ⟨by rfl, ?_⟩) ?_ ?_
    rotate_left
    ·intro w'
     go_simp
     with_reducible rfl
    rotate_left
    ·simp only [Act.put, List.setIfInBounds_toArray, List.set_cons_zero, List.set_cons_succ, i64_w, i32_w]
     rfl
    refine take_ (i := 0) (N := some 37) (v := ?_) (a' := ?_) #[true, true, false, false, true, false, false, false, false, false, false] rfl rfl (take_ofW HT_.out HW_.out (by kernel_rfl)) (fun _ _ _ h => h) (Or.inl ⟨by rfl, ?_⟩) hHeld ?_ ?_
    rotate_left
    ·rintro w' ⟨s0, s1, s2, s3, s4, s5, s6⟩
     go_simp
     with_reducible rfl
    rotate_left
    ·simp only [Act.put, List.setIfInBounds_toArray, List.set_cons_zero, List.set_cons_succ, i64_w, i32_w]
     rfl
    refine take_ (i := 2) (N := some 39) (v := ?_) (a' := ?_) #[true, true, true, false, true, false, false, false, false, false, false] rfl rfl (take_ofW HT_.out HW_.out (by kernel_rfl)) (fun _ _ _ h => h) (Or.inl ⟨by rfl, ?_⟩) hHeld ?_ ?_
    rotate_left
    ·rintro w' ⟨s0, s1, s2, s3, s4, s5, s6⟩
     go_simp
     with_reducible rfl
    rotate_left
    ·simp only [Act.put, List.setIfInBounds_toArray, List.set_cons_zero, List.set_cons_succ, i64_w, i32_w]
     rfl
    refine one_ (i := 3) (N := some 40) #[true, true, true, true, true, false, false, false, false, false, false] rfl rfl (one_of HT_.out (by kernel_rfl)) (by decide) (fun K hK => ?_)
    refine goes_ Try.func32 (by kernel_rfl) rfl #[.agg #[.slice A2_0 l2_0.length c2_0, .int .i64 a2_1]] (by rfl) rfl rfl (by (try simp only [List.map_toArray, List.map_cons, List.map_nil]); first | done | rfl | (simp only [List.length_drop, List.length_take]; rfl)) ?_
    with_reducible refine (layout_Shelves.calls kj5 _ _ l2_0 a2_1 t265 _ ?side1 ?side2 A21.out).mono ?_
    (case side1 => repeat (first | exact (Kd.V_reads' HO_263000.out).2.2 | (with_reducible refine Kd.C_alloc ?_ _) | (with_reducible refine Kd.C_drewN ?_ _) | (with_reducible refine Kd.C_drew ?_)))
    (case side2 => exact (Kd.V_reads' HO_263000.out).2.1)
    rintro e w27 ⟨rfl, hb⟩
    refine ⟨_, rfl, ?_⟩
    have n0_ := Aside0.mk (Kd.V_below (by (with_reducible repeat (first | apply Kd.V_alloc | apply Kd.V_drewN | apply Kd.V_drew)); exact HO_263000.out) hb)
    have n1_ := Aside0.mk (blk_below (g := gb261) (o := .cells #[.int .i64 a0_0, .int .i64 a0_1, .int .i64 a0_2, .slice A0_3 l0_3.length c0_3, .slice A0_4 l0_4.length c0_4] 24 (0, 0)) (by (with_reducible repeat (first | refine blk_drewN ?_ _ | refine blk_drew ?_ | refine blk_alloc ?_ _)); exact BK261.out) hb)
    have n2_ := Aside0.mk (blk_below (g := gb262) (o := .cells #[.slice A2_0 l2_0.length c2_0, .int .i64 a2_1] 27 (0, 0)) (by (with_reducible repeat (first | refine blk_drewN ?_ _ | refine blk_drew ?_ | refine blk_alloc ?_ _)); exact BK262.out) hb)
    have n3_ := Aside0.mk (below_step (by repeat (first | (with_reducible first | exact HB.out | apply below_alloc | apply pw_below_drewN | apply below_drew1 | refine below_set ?_ GE261.out | refine below_set ?_ GE262.out) | exact HB.out)) hb)
    clear HO_263000
    clear BK261
    clear BK262
    clear HB
    have HO_263000 := n0_
    have BK261 := n1_
    have BK262 := n2_
    have HB := n3_
    clear n0_ n1_ n2_ n3_
    (try clear hb)
    (try clear hb2)
    (try clear hk)
    (try clear hi)
    refine hK.out _ _ ⟨(blk_cell BK261.out 0).trans rfl, (blk_cell BK261.out 1).trans rfl, (blk_cell BK261.out 2).trans rfl, (blk_cell BK261.out 3).trans rfl, (blk_cell BK261.out 4).trans rfl, (blk_cell BK262.out 0).trans rfl, (blk_cell BK262.out 1).trans rfl⟩ (fun hHeld => ?_)
    clear hK K
    refine norm_ (a' := ?_) ?_ ?_
    rotate_left
    ·show Act.put _ (some 40) _ = _
     simp only [Act.put, List.setIfInBounds_toArray, List.set_cons_zero, List.set_cons_succ, i64_w, i32_w]
     rfl
    refine one_ (i := 5) (N := some 42) #[true, true, true, true, true, true, false, false, false, false, false] rfl rfl (one_of HT_.out (by kernel_rfl)) (by decide) (fun K hK => ?_)
    refine goes_ Try.func16 (by kernel_rfl) rfl #[.agg #[.int .i64 a0_0, .int .i64 a0_1, .int .i64 a0_2, .slice A0_3 l0_3.length c0_3, .slice A0_4 l0_4.length c0_4], .slice A1 l1.length c1, .int .i64 t265, .int .i64 a3] (by rfl) rfl rfl (by (try simp only [List.map_toArray, List.map_cons, List.map_nil]); first | done | rfl | (simp only [List.length_drop, List.length_take]; rfl)) ?_
    with_reducible refine (puzzle_Table.calls a0_0 a0_1 a0_2 _ _ l0_3 _ _ l0_4 _ _ l1 t265 a3 t266 t269 _ ?side1 ?side2 ?side3 ?side4 ?side5 ?side6 A22.out).mono ?_
    (case side1 => repeat (first | exact (Kd.C_below HR0_3.out HB.out) | (with_reducible refine Kd.C_alloc ?_ _) | (with_reducible refine Kd.C_drewN ?_ _) | (with_reducible refine Kd.C_drew ?_)))
    (case side2 => exact HC0_3.out)
    (case side3 => repeat (first | exact (Kd.C_below HR0_4.out HB.out) | (with_reducible refine Kd.C_alloc ?_ _) | (with_reducible refine Kd.C_drewN ?_ _) | (with_reducible refine Kd.C_drew ?_)))
    (case side4 => exact HC0_4.out)
    (case side5 => repeat (first | exact (Kd.C_below HR1.out HB.out) | (with_reducible refine Kd.C_alloc ?_ _) | (with_reducible refine Kd.C_drewN ?_ _) | (with_reducible refine Kd.C_drew ?_)))
    (case side6 => exact HC1.out)
    rintro e w28 ⟨v267, rfl, ho0, hb⟩
    refine ⟨_, rfl, ?_⟩
    have n0_ := Aside0.mk (Kd.V_elder' (by (with_reducible repeat (first | apply Kd.V_alloc | apply Kd.V_drewN | apply Kd.V_drew)); exact HO_263000.out) (Kd.R_base ho0) hb)
    have n1_ := Aside0.mk (Kd.R_lower (Kd.R_newM (M := fun k_ => (w.heap.size ≤ k_)) ho0 (below_size (by repeat (first | (with_reducible first | exact HB.out | apply below_alloc | apply pw_below_drewN | apply below_drew1 | refine below_set ?_ GE261.out | refine below_set ?_ GE262.out) | exact HB.out))) (fun k_ h_ => h_)) (below_size (by repeat (first | (with_reducible first | exact HB.out | apply below_alloc | apply pw_below_drewN | apply below_drew1 | refine below_set ?_ GE261.out | refine below_set ?_ GE262.out) | exact HB.out))))
    have n2_ := Aside0.mk (blk_below (g := gb261) (o := .cells #[.int .i64 a0_0, .int .i64 a0_1, .int .i64 a0_2, .slice A0_3 l0_3.length c0_3, .slice A0_4 l0_4.length c0_4] 24 (0, 0)) (by (with_reducible repeat (first | refine blk_drewN ?_ _ | refine blk_drew ?_ | refine blk_alloc ?_ _)); exact BK261.out) hb)
    have n3_ := Aside0.mk (blk_below (g := gb262) (o := .cells #[.slice A2_0 l2_0.length c2_0, .int .i64 a2_1] 27 (0, 0)) (by (with_reducible repeat (first | refine blk_drewN ?_ _ | refine blk_drew ?_ | refine blk_alloc ?_ _)); exact BK262.out) hb)
    have n4_ := Aside0.mk (below_step (by repeat (first | (with_reducible first | exact HB.out | apply below_alloc | apply pw_below_drewN | apply below_drew1 | refine below_set ?_ GE261.out | refine below_set ?_ GE262.out) | exact HB.out)) hb)
    clear HO_263000
    clear BK261
    clear BK262
    clear HB
    have HO_263000 := n0_
    have HO268 := n1_
    have BK261 := n2_
    have BK262 := n3_
    have HB := n4_
    clear n0_ n1_ n2_ n3_ n4_
    (try clear hb)
    (try clear hb2)
    (try clear hk)
    (try clear hi)
    (try clear ho0)
    refine hK.out _ _ ⟨(blk_cell BK261.out 0).trans rfl, (blk_cell BK261.out 1).trans rfl, (blk_cell BK261.out 2).trans rfl, (blk_cell BK261.out 3).trans rfl, (blk_cell BK261.out 4).trans rfl, (blk_cell BK262.out 0).trans rfl, (blk_cell BK262.out 1).trans rfl⟩ (fun hHeld => ?_)
    clear hK K
    refine norm_ (a' := ?_) ?_ ?_
    rotate_left
    ·show Act.put _ (some 42) _ = _
     simp only [Act.put, List.setIfInBounds_toArray, List.set_cons_zero, List.set_cons_succ, i64_w, i32_w]
     rfl
    refine pure_ (i := 6) (N := some 36) (v := ?_) (a' := ?_) #[true, true, true, true, true, true, true, false, false, false, false] rfl rfl (any_of HT_.out (by kernel_rfl)) (fun _ _ _ h => h) (Or.inl ⟨by rfl, ?_⟩) ?_ ?_
    rotate_left
    ·intro w'
     go_simp
     with_reducible rfl
    rotate_left
    ·simp only [Act.put, List.setIfInBounds_toArray, List.set_cons_zero, List.set_cons_succ, i64_w, i32_w]
     rfl
    refine pure_ (i := 7) (N := some 43) (v := ?_) (a' := ?_) #[true, true, true, true, true, true, true, true, false, false, false] rfl rfl (any_of HT_.out (by kernel_rfl)) (fun _ _ _ h => h) (Or.inl ⟨by rfl, ?_⟩) ?_ ?_
    rotate_left
    ·intro w'
     go_simp
     with_reducible rfl
    rotate_left
    ·simp only [Act.put, List.setIfInBounds_toArray, List.set_cons_zero, List.set_cons_succ, i64_w, i32_w]
     rfl
    refine pure_ (i := 8) (N := some 44) (v := ?_) (a' := ?_) #[true, true, true, true, true, true, true, true, true, false, false] rfl rfl (any_of HT_.out (by kernel_rfl)) (fun _ _ _ h => h) (Or.inl ⟨by rfl, ?_⟩) ?_ ?_
    rotate_left
    ·intro w'
     go_simp
     with_reducible rfl
    rotate_left
    ·simp only [Act.put, List.setIfInBounds_toArray, List.set_cons_zero, List.set_cons_succ, i64_w, i32_w]
     rfl
    refine pure_ (i := 9) (N := some 10) (v := ?_) (a' := ?_) #[true, true, true, true, true, true, true, true, true, true, false] rfl rfl (any_of HT_.out (by kernel_rfl)) (fun _ _ _ h => h) (Or.inl ⟨by rfl, ?_⟩) ?_ ?_
    rotate_left
    ·intro w'
     go_simp
     with_reducible rfl
    rotate_left
    ·simp only [Act.put, List.setIfInBounds_toArray, List.set_cons_zero, List.set_cons_succ, i64_w, i32_w]
     rfl
    refine pure_ (i := 10) (N := some 11) (v := ?_) (a' := ?_) #[true, true, true, true, true, true, true, true, true, true, true] rfl rfl (any_of HT_.out (by kernel_rfl)) (fun _ _ _ h => h) (Or.inl ⟨by rfl, ?_⟩) ?_ ?_
    rotate_left
    ·intro w'
     go_simp
     with_reducible rfl
    rotate_left
    ·simp only [Act.put, List.setIfInBounds_toArray, List.set_cons_zero, List.set_cons_succ, i64_w, i32_w]
     rfl
    refine done_ (done_of HT_.out (by kernel_rfl)) ?_
    have hnb29 := NB261_262.out
    have hnc29 := NB262_261.out
    have hcz30_0 : w28.cell? ⟨gb261, 0, none⟩ = some (.int .i64 a0_0) := (blk_cell BK261.out 0).trans rfl
    have hcz30_1 : w28.cell? ⟨gb261, 1, none⟩ = some (.int .i64 a0_1) := (blk_cell BK261.out 1).trans rfl
    have hcz30_2 : w28.cell? ⟨gb261, 2, none⟩ = some (.int .i64 a0_2) := (blk_cell BK261.out 2).trans rfl
    have hcz30_3 : w28.cell? ⟨gb261, 3, none⟩ = some (.slice A0_3 l0_3.length c0_3) := (blk_cell BK261.out 3).trans rfl
    have hcz30_4 : w28.cell? ⟨gb261, 4, none⟩ = some (.slice A0_4 l0_4.length c0_4) := (blk_cell BK261.out 4).trans rfl
    have hfz30_0 := blk_frozen BK261.out 0
    have hfz30_1 := blk_frozen BK261.out 1
    have hfz30_2 := blk_frozen BK261.out 2
    have hfz30_3 := blk_frozen BK261.out 3
    have hfz30_4 := blk_frozen BK261.out 4
    have hcz31_0 : w28.cell? ⟨gb262, 0, none⟩ = some (.slice A2_0 l2_0.length c2_0) := (blk_cell BK262.out 0).trans rfl
    have hcz31_1 : w28.cell? ⟨gb262, 1, none⟩ = some (.int .i64 a2_1) := (blk_cell BK262.out 1).trans rfl
    have hfz31_0 := blk_frozen BK262.out 0
    have hfz31_1 := blk_frozen BK262.out 1
    go_upto_region 7 with (first | ((with_reducible refine gate_callee (f := 18) rfl ?_); refine goesL_ (some 50) rfl rfl Try.func18 (by kernel_rfl) rfl #[.agg #[.int .i64 a0_0, .int .i64 a0_1, .int .i64 a0_2, .slice A0_3 l0_3.length c0_3, .slice A0_4 l0_4.length c0_4], .slice A1 l1.length c1, .agg #[.slice A2_0 l2_0.length c2_0, .int .i64 a2_1], .int .i64 a3] rfl (by (try simp only [List.map_toArray, List.map_cons, List.map_nil]); first | done | rfl | (simp only [List.length_drop, List.length_take]; rfl)) ?_; (with_reducible refine (puzzle_Least.calls kj5 a0_0 a0_1 a0_2 _ _ l0_3 _ _ l0_4 _ _ l1 _ _ l2_0 a2_1 a3 t270 t271 _ ?side1 ?side2 ?side3 ?side4 ?side5 ?side6 ?side7 ?side8 A23.out).mono ?_); (case side1 => repeat (first | exact (Kd.C_below HR0_3.out HB.out) | (with_reducible refine Kd.C_alloc ?_ _) | (with_reducible refine Kd.C_drewN ?_ _) | (with_reducible refine Kd.C_drew ?_))); (case side2 => exact HC0_3.out); (case side3 => repeat (first | exact (Kd.C_below HR0_4.out HB.out) | (with_reducible refine Kd.C_alloc ?_ _) | (with_reducible refine Kd.C_drewN ?_ _) | (with_reducible refine Kd.C_drew ?_))); (case side4 => exact HC0_4.out); (case side5 => repeat (first | exact (Kd.C_below HR1.out HB.out) | (with_reducible refine Kd.C_alloc ?_ _) | (with_reducible refine Kd.C_drewN ?_ _) | (with_reducible refine Kd.C_drew ?_))); (case side6 => exact HC1.out); (case side7 => repeat (first | exact (Kd.V_reads' HO_263000.out).2.2 | (with_reducible refine Kd.C_alloc ?_ _) | (with_reducible refine Kd.C_drewN ?_ _) | (with_reducible refine Kd.C_drew ?_))); (case side8 => exact (Kd.V_reads' HO_263000.out).2.1); rintro e w32 ⟨rfl, hb⟩; refine ⟨_, rfl, ?_⟩; have n0_ := Aside0.mk (Kd.V_below (by (with_reducible repeat (first | apply Kd.V_alloc | apply Kd.V_drewN | apply Kd.V_drew)); exact HO_263000.out) hb); have n1_ := Aside0.mk (Kd.R_below (by (with_reducible repeat (first | apply Kd.R_alloc | apply Kd.R_drewN | apply Kd.R_drew)); exact HO268.out) hb); have n2_ := Aside0.mk (blk_below (g := gb261) (o := .cells #[.int .i64 a0_0, .int .i64 a0_1, .int .i64 a0_2, .slice A0_3 l0_3.length c0_3, .slice A0_4 l0_4.length c0_4] 24 (0, 0)) (by (with_reducible repeat (first | refine blk_drewN ?_ _ | refine blk_drew ?_ | refine blk_alloc ?_ _)); exact BK261.out) hb); have n3_ := Aside0.mk (blk_below (g := gb262) (o := .cells #[.slice A2_0 l2_0.length c2_0, .int .i64 a2_1] 27 (0, 0)) (by (with_reducible repeat (first | refine blk_drewN ?_ _ | refine blk_drew ?_ | refine blk_alloc ?_ _)); exact BK262.out) hb); have n4_ := Aside0.mk (below_step (by repeat (first | (with_reducible first | exact HB.out | apply below_alloc | apply pw_below_drewN | apply below_drew1 | refine below_set ?_ GE261.out | refine below_set ?_ GE262.out) | exact HB.out)) hb); clear HO_263000; clear HO268; clear BK261; clear BK262; clear HB; have HO_263000 := n0_; have HO268 := n1_; have BK261 := n2_; have BK262 := n3_; have HB := n4_; clear n0_ n1_ n2_ n3_ n4_; (try clear hb); (try clear hb2); (try clear hk); (try clear hi); have hcz33_0 : w32.cell? ⟨gb261, 0, none⟩ = some (.int .i64 a0_0) := (blk_cell BK261.out 0).trans rfl; have hcz33_1 : w32.cell? ⟨gb261, 1, none⟩ = some (.int .i64 a0_1) := (blk_cell BK261.out 1).trans rfl; have hcz33_2 : w32.cell? ⟨gb261, 2, none⟩ = some (.int .i64 a0_2) := (blk_cell BK261.out 2).trans rfl; have hcz33_3 : w32.cell? ⟨gb261, 3, none⟩ = some (.slice A0_3 l0_3.length c0_3) := (blk_cell BK261.out 3).trans rfl; have hcz33_4 : w32.cell? ⟨gb261, 4, none⟩ = some (.slice A0_4 l0_4.length c0_4) := (blk_cell BK261.out 4).trans rfl; have hfz33_0 := blk_frozen BK261.out 0; have hfz33_1 := blk_frozen BK261.out 1; have hfz33_2 := blk_frozen BK261.out 2; have hfz33_3 := blk_frozen BK261.out 3; have hfz33_4 := blk_frozen BK261.out 4; have hcz34_0 : w32.cell? ⟨gb262, 0, none⟩ = some (.slice A2_0 l2_0.length c2_0) := (blk_cell BK262.out 0).trans rfl; have hcz34_1 : w32.cell? ⟨gb262, 1, none⟩ = some (.int .i64 a2_1) := (blk_cell BK262.out 1).trans rfl; have hfz34_0 := blk_frozen BK262.out 0; have hfz34_1 := blk_frozen BK262.out 1) | ((with_reducible refine gate_callee (f := 20) rfl ?_); refine goesL_ (some 58) rfl rfl Try.func20 (by kernel_rfl) rfl #[.agg #[.int .i64 a0_0, .int .i64 a0_1, .int .i64 a0_2, .slice A0_3 l0_3.length c0_3, .slice A0_4 l0_4.length c0_4], .slice A1 l1.length c1, .agg #[.slice A2_0 l2_0.length c2_0, .int .i64 a2_1], .int .i64 a3] rfl (by (try simp only [List.map_toArray, List.map_cons, List.map_nil]); first | done | rfl | (simp only [List.length_drop, List.length_take]; rfl)) ?_; (with_reducible refine (puzzle_Solve.calls kj5 a0_0 a0_1 a0_2 _ _ l0_3 _ _ l0_4 _ _ l1 (fun k_ => (((P2_0_ k_ ∨ w.heap.size ≤ k_) ∧ (k_ ≠ gb261 ∧ k_ ≠ gb262)) ∧ some k_ ≠ (v267 : Value).ownBlock)) _ _ l2_0 a2_1 a3 t272 t275 _ ?side1 ?side2 ?side3 ?side4 ?side5 ?side6 ?side7 A24.out).mono ?_); (case side1 => repeat (first | exact (Kd.C_below HR0_3.out HB.out) | (with_reducible refine Kd.C_alloc ?_ _) | (with_reducible refine Kd.C_drewN ?_ _) | (with_reducible refine Kd.C_drew ?_))); (case side2 => exact HC0_3.out); (case side3 => repeat (first | exact (Kd.C_below HR0_4.out HB.out) | (with_reducible refine Kd.C_alloc ?_ _) | (with_reducible refine Kd.C_drewN ?_ _) | (with_reducible refine Kd.C_drew ?_))); (case side4 => exact HC0_4.out); (case side5 => repeat (first | exact (Kd.C_below HR1.out HB.out) | (with_reducible refine Kd.C_alloc ?_ _) | (with_reducible refine Kd.C_drewN ?_ _) | (with_reducible refine Kd.C_drew ?_))); (case side6 => exact HC1.out); (case side7 => exact HO_263000.out); rintro e w35 ⟨v273, rfl, ho0, hb⟩; refine ⟨_, rfl, ?_⟩; have n0_ := Aside0.mk (Kd.V_elder' (by (with_reducible repeat (first | apply Kd.V_alloc | apply Kd.V_drewN | apply Kd.V_drew)); exact HO_263000.out) (Kd.R_base ho0) hb); have n1_ := Aside0.mk (Kd.R_below (by (with_reducible repeat (first | apply Kd.R_alloc | apply Kd.R_drewN | apply Kd.R_drew)); exact HO268.out) hb); have n2_ := Aside0.mk (Kd.R_lower (Kd.R_newM (M := fun k_ => (w.heap.size ≤ k_)) (Kd.R_mono (ok' := fun k_ => True) ho0 (fun _ hk_ => trivial)) (below_size (by repeat (first | (with_reducible first | exact HB.out | apply below_alloc | apply pw_below_drewN | apply below_drew1 | refine below_set ?_ GE261.out | refine below_set ?_ GE262.out) | exact HB.out))) (fun k_ h_ => h_)) (below_size (by repeat (first | (with_reducible first | exact HB.out | apply below_alloc | apply pw_below_drewN | apply below_drew1 | refine below_set ?_ GE261.out | refine below_set ?_ GE262.out) | exact HB.out)))); have n3_ := Aside0.mk (blk_below (g := gb261) (o := .cells #[.int .i64 a0_0, .int .i64 a0_1, .int .i64 a0_2, .slice A0_3 l0_3.length c0_3, .slice A0_4 l0_4.length c0_4] 24 (0, 0)) (by (with_reducible repeat (first | refine blk_drewN ?_ _ | refine blk_drew ?_ | refine blk_alloc ?_ _)); exact BK261.out) hb); have n4_ := Aside0.mk (blk_below (g := gb262) (o := .cells #[.slice A2_0 l2_0.length c2_0, .int .i64 a2_1] 27 (0, 0)) (by (with_reducible repeat (first | refine blk_drewN ?_ _ | refine blk_drew ?_ | refine blk_alloc ?_ _)); exact BK262.out) hb); have n5_ := Aside0.mk (below_step (by repeat (first | (with_reducible first | exact HB.out | apply below_alloc | apply pw_below_drewN | apply below_drew1 | refine below_set ?_ GE261.out | refine below_set ?_ GE262.out) | exact HB.out)) hb); clear HO_263000; clear HO268; clear BK261; clear BK262; clear HB; have HO_263000 := n0_; have HO268 := n1_; have HO274 := n2_; have BK261 := n3_; have BK262 := n4_; have HB := n5_; clear n0_ n1_ n2_ n3_ n4_ n5_; (try clear hb); (try clear hb2); (try clear hk); (try clear hi); (try clear ho0)))
    (try simp only [Act.put, List.setIfInBounds_toArray, List.set_cons_zero, List.set_cons_succ])
    go_cut [76] (fun v76 wc => ∃ (kq : Nat) (x76_24 : Bool), v76 = .bool x76_24 ∧ Aside0 (taquinlaw26_PuzzleSolves.j1 kq l1 a3 t263 t266 t269 t270 t271 t272 x76_24 a0_0 a0_1 a0_2 l0_3 l0_4 l2_0 a2_1 = some true) ∧ Aside0 (kq ≤ kj5) ∧ Aside0 (Kd.R (Kd.int .i64) 3 wc w.heap.size (fun k_ => (w.heap.size ≤ k_)) v267 t266) ∧ Aside0 (Kd.R k51 51 wc w.heap.size (fun k_ => (w.heap.size ≤ k_)) v273 t272) ∧ Aside0 (Kd.V Kd.bool 4 wc w.heap.size (fun k_ => (P2_0_ k_ ∨ w.heap.size ≤ k_) ∧ some k_ ≠ (v267 : Value).ownBlock ∧ some k_ ≠ (v273 : Value).ownBlock ∧ k_ ≠ gb261 ∧ k_ ≠ gb262) (.slice A2_0 l2_0.length c2_0) l2_0) ∧ Aside0 (wc.heap[gb261]? = some (.cells #[.int .i64 a0_0, .int .i64 a0_1, .int .i64 a0_2, (.slice A0_3 l0_3.length c0_3), (.slice A0_4 l0_4.length c0_4)] 24 (0, 0))) ∧ Aside0 (wc.heap[gb262]? = some (.cells #[(.slice A2_0 l2_0.length c2_0), .int .i64 a2_1] 27 (0, 0))) ∧ Aside0 (Below w.heap.size w wc))
    case first => as_aux_lemma =>
     have H := HC25.out
     clear HC25
     by_cases c36 : t271 = t275
     ·rw [if_pos c36] at H
      have c36b0 : (t271 == t275) = true := beq_iff_eq.mpr c36
      have c36b1 : (t271 != t275) = false := bne_eq_false_iff_eq.mpr c36
      clear c36
      (first | rw [c36b0] | (simp only [i64_w, i32_w]; rw [c36b0]) | skip)
      by_cases c37 : t271 = 0
      ·rw [if_pos c37] at H
       have c37b0 : (t271 == 0) = true := beq_iff_eq.mpr c37
       have c37b1 : (t271 != 0) = false := bne_eq_false_iff_eq.mpr c37
       clear c37
       have H' := Aside0.mk H
       clear H
       go_wp2
       go_meet
       case rel => exact ⟨_, (false), (by first | rfl | (simp; done) | (simp [*]; done)), H', ⟨by have := HJ5.out; first | omega | exact Nat.le_refl _⟩, ⟨by (with_reducible repeat (first | apply Kd.R_alloc | apply Kd.R_drewN | apply Kd.R_drew)); exact Kd.R_mono HO268.out (fun _ hk => hk.1)⟩, ⟨by (with_reducible repeat (first | apply Kd.R_alloc | apply Kd.R_drewN | apply Kd.R_drew)); exact Kd.R_mono HO274.out (fun _ hk => hk.1)⟩, ⟨by (with_reducible repeat (first | apply Kd.V_alloc | apply Kd.V_drewN | apply Kd.V_drew)); exact Kd.V_mono HO_263000.out (fun _ hk => ⟨hk.1.1.1, ⟨hk.1.2, ⟨hk.2, ⟨hk.1.1.2.1, hk.1.1.2.2⟩⟩⟩⟩)⟩, ⟨by (with_reducible repeat (first | refine blk_drewN ?_ _ | refine blk_drew ?_ | refine blk_alloc ?_ _)); exact BK261.out⟩, ⟨by (with_reducible repeat (first | refine blk_drewN ?_ _ | refine blk_drew ?_ | refine blk_alloc ?_ _)); exact BK262.out⟩, ⟨by repeat (first | (with_reducible first | exact HB.out | apply below_alloc | apply pw_below_drewN | apply below_drew1 | refine below_set ?_ GE261.out | refine below_set ?_ GE262.out) | exact HB.out)⟩⟩
      ·rw [if_neg c37] at H
       have c37b0 : (t271 == 0) = false := beq_eq_false_iff_ne.mpr c37
       have c37b1 : (t271 != 0) = true := bne_iff_ne.mpr c37
       by_cases c38 : t270 = 0
       ·rw [if_pos c38] at H
        have c38b0 : (t270 == 0) = true := beq_iff_eq.mpr c38
        have c38b1 : (t270 != 0) = false := bne_eq_false_iff_eq.mpr c38
        clear c38
        have H' := Aside0.mk H
        clear H
        obtain ⟨Ao39, co39, eo39⟩ := Kd.R_slice HO274.out
        subst eo39
        go_wp2
        go_meet
        case rel => exact ⟨_, (((t272.length : Int) != 0)), (by first | rfl | (simp; done) | (simp [*]; done)), H', ⟨by have := HJ5.out; first | omega | exact Nat.le_refl _⟩, ⟨by (with_reducible repeat (first | apply Kd.R_alloc | apply Kd.R_drewN | apply Kd.R_drew)); exact Kd.R_mono HO268.out (fun _ hk => hk.1)⟩, ⟨by (with_reducible repeat (first | apply Kd.R_alloc | apply Kd.R_drewN | apply Kd.R_drew)); exact Kd.R_mono HO274.out (fun _ hk => hk.1)⟩, ⟨by (with_reducible repeat (first | apply Kd.V_alloc | apply Kd.V_drewN | apply Kd.V_drew)); exact Kd.V_mono HO_263000.out (fun _ hk => ⟨hk.1.1.1, ⟨hk.1.2, ⟨hk.2, ⟨hk.1.1.2.1, hk.1.1.2.2⟩⟩⟩⟩)⟩, ⟨by (with_reducible repeat (first | refine blk_drewN ?_ _ | refine blk_drew ?_ | refine blk_alloc ?_ _)); exact BK261.out⟩, ⟨by (with_reducible repeat (first | refine blk_drewN ?_ _ | refine blk_drew ?_ | refine blk_alloc ?_ _)); exact BK262.out⟩, ⟨by repeat (first | (with_reducible first | exact HB.out | apply below_alloc | apply pw_below_drewN | apply below_drew1 | refine below_set ?_ GE261.out | refine below_set ?_ GE262.out) | exact HB.out)⟩⟩
       ·rw [if_neg c38] at H
        have c38b0 : (t270 == 0) = false := beq_eq_false_iff_ne.mpr c38
        have c38b1 : (t270 != 0) = true := bne_iff_ne.mpr c38
        have H' := Aside0.mk H
        clear H
        go_wp2
        go_meet
        case rel => exact ⟨_, (true), (by first | rfl | (simp; done) | (simp [*]; done)), H', ⟨by have := HJ5.out; first | omega | exact Nat.le_refl _⟩, ⟨by (with_reducible repeat (first | apply Kd.R_alloc | apply Kd.R_drewN | apply Kd.R_drew)); exact Kd.R_mono HO268.out (fun _ hk => hk.1)⟩, ⟨by (with_reducible repeat (first | apply Kd.R_alloc | apply Kd.R_drewN | apply Kd.R_drew)); exact Kd.R_mono HO274.out (fun _ hk => hk.1)⟩, ⟨by (with_reducible repeat (first | apply Kd.V_alloc | apply Kd.V_drewN | apply Kd.V_drew)); exact Kd.V_mono HO_263000.out (fun _ hk => ⟨hk.1.1.1, ⟨hk.1.2, ⟨hk.2, ⟨hk.1.1.2.1, hk.1.1.2.2⟩⟩⟩⟩)⟩, ⟨by (with_reducible repeat (first | refine blk_drewN ?_ _ | refine blk_drew ?_ | refine blk_alloc ?_ _)); exact BK261.out⟩, ⟨by (with_reducible repeat (first | refine blk_drewN ?_ _ | refine blk_drew ?_ | refine blk_alloc ?_ _)); exact BK262.out⟩, ⟨by repeat (first | (with_reducible first | exact HB.out | apply below_alloc | apply pw_below_drewN | apply below_drew1 | refine below_set ?_ GE261.out | refine below_set ?_ GE262.out) | exact HB.out)⟩⟩
     ·rw [if_neg c36] at H
      have c36b0 : (t271 == t275) = false := beq_eq_false_iff_ne.mpr c36
      have c36b1 : (t271 != t275) = true := bne_iff_ne.mpr c36
      (first | rw [c36b0] | (simp only [i64_w, i32_w]; rw [c36b0]) | skip)
      have H' := Aside0.mk H
      clear H
      go_wp2
      go_meet
      case rel => exact ⟨_, (true), (by first | rfl | (simp; done) | (simp [*]; done)), H', ⟨by have := HJ5.out; first | omega | exact Nat.le_refl _⟩, ⟨by (with_reducible repeat (first | apply Kd.R_alloc | apply Kd.R_drewN | apply Kd.R_drew)); exact Kd.R_mono HO268.out (fun _ hk => hk.1)⟩, ⟨by (with_reducible repeat (first | apply Kd.R_alloc | apply Kd.R_drewN | apply Kd.R_drew)); exact Kd.R_mono HO274.out (fun _ hk => hk.1)⟩, ⟨by (with_reducible repeat (first | apply Kd.V_alloc | apply Kd.V_drewN | apply Kd.V_drew)); exact Kd.V_mono HO_263000.out (fun _ hk => ⟨hk.1.1.1, ⟨hk.1.2, ⟨hk.2, ⟨hk.1.1.2.1, hk.1.1.2.2⟩⟩⟩⟩)⟩, ⟨by (with_reducible repeat (first | refine blk_drewN ?_ _ | refine blk_drew ?_ | refine blk_alloc ?_ _)); exact BK261.out⟩, ⟨by (with_reducible repeat (first | refine blk_drewN ?_ _ | refine blk_drew ?_ | refine blk_alloc ?_ _)); exact BK262.out⟩, ⟨by repeat (first | (with_reducible first | exact HB.out | apply below_alloc | apply pw_below_drewN | apply below_drew1 | refine below_set ?_ GE261.out | refine below_set ?_ GE262.out) | exact HB.out)⟩⟩
    case rest => as_aux_lemma =>
     clear HC25
     try clear c1
     try clear c2
     try clear p2
     try clear c3
     try clear c5
     try clear c11
     try clear c12
     try clear c14
     try clear c15
     try clear c16
     try clear c18
     try clear c20
     try clear c29
     try clear c32
     try clear c36
     try clear c36b0
     try clear c36b1
     try clear c37
     try clear c37b0
     try clear c37b1
     try clear c38
     try clear c38b0
     try clear c38b1
     try clear hcz13_0
     try clear hcz13_1
     try clear hcz13_2
     try clear hcz13_3
     try clear hcz13_4
     try clear hcz14_0
     try clear hcz14_1
     try clear hcz17_0
     try clear hcz17_1
     try clear hcz17_2
     try clear hcz17_3
     try clear hcz17_4
     try clear hcz18_0
     try clear hcz18_1
     try clear hcz30_0
     try clear hcz30_1
     try clear hcz30_2
     try clear hcz30_3
     try clear hcz30_4
     try clear hcz31_0
     try clear hcz31_1
     try clear hcz33_0
     try clear hcz33_1
     try clear hcz33_2
     try clear hcz33_3
     try clear hcz33_4
     try clear hcz34_0
     try clear hcz34_1
     try clear hfz13_0
     try clear hfz13_1
     try clear hfz13_2
     try clear hfz13_3
     try clear hfz13_4
     try clear hfz14_0
     try clear hfz14_1
     try clear hfz17_0
     try clear hfz17_1
     try clear hfz17_2
     try clear hfz17_3
     try clear hfz17_4
     try clear hfz18_0
     try clear hfz18_1
     try clear hfz30_0
     try clear hfz30_1
     try clear hfz30_2
     try clear hfz30_3
     try clear hfz30_4
     try clear hfz31_0
     try clear hfz31_1
     try clear hfz33_0
     try clear hfz33_1
     try clear hfz33_2
     try clear hfz33_3
     try clear hfz33_4
     try clear hfz34_0
     try clear hfz34_1
     try clear p2
     obtain ⟨kq, x76_24, rfl, HA, HJ24, HO_10, HO_14, HO_263000, BK261, BK262, HB⟩ := hcut
     cases kq with
     | zero => exact absurd HA.out (by simp [taquinlaw26_PuzzleSolves.j1])
     | succ kj24 =>
      have H := HA.out
      clear HA
      simp only [taquinlaw26_PuzzleSolves.j1] at H
      by_cases c40 : x76_24 = true
      ·subst c40
       have H1 : (some false) = some true := by rw [if_pos rfl] at H; exact H
       clear H
       have H := H1
       clear H1
       exact absurd H (by simp)
      ·replace c40 := Bool.eq_false_iff.mpr c40
       subst c40
       have H1 : (if t269 = 0 then ((layout_Rank.f l2_0 a2_1).bind fun t276 => (if t276 < 0 then (taquinlaw26_PuzzleSolves.j2 kj24 l1 a3 t263 t266 t270 t271 t272 t276 true a0_0 a0_1 a0_2 l0_3 l0_4 l2_0 a2_1) else (taquinlaw26_PuzzleSolves.j2 kj24 l1 a3 t263 t266 t270 t271 t272 t276 (decide (t276 ≥ (t266.length : Int))) a0_0 a0_1 a0_2 l0_3 l0_4 l2_0 a2_1))) else (if t263 = true then (some (t271 == t269)) else (some false))) = some true := by rw [if_neg (show ¬ (false = true) by decide)] at H; exact H
       clear H
       have H := H1
       clear H1
       by_cases c41 : t269 = 0
       ·rw [if_pos c41] at H
        have c41b0 : (t269 == 0) = true := beq_iff_eq.mpr c41
        have c41b1 : (t269 != 0) = false := bne_eq_false_iff_eq.mpr c41
        clear c41
        replace H := Option.bind_eq_some_iff.mp H
        obtain ⟨t276, A420, H⟩ := H
        replace H : (if t276 < 0 then (taquinlaw26_PuzzleSolves.j2 kj24 l1 a3 t263 t266 t270 t271 t272 t276 true a0_0 a0_1 a0_2 l0_3 l0_4 l2_0 a2_1) else (taquinlaw26_PuzzleSolves.j2 kj24 l1 a3 t263 t266 t270 t271 t272 t276 (decide (t276 ≥ (t266.length : Int))) a0_0 a0_1 a0_2 l0_3 l0_4 l2_0 a2_1)) = some true := H
        have A42 := Aside0.mk A420
        clear A420
        have HC43 := Aside0.mk H
        clear H
        have hnb44 := NB262_261.out
        have hnc44 := NB261_262.out
        have hcz45_0 : wc.cell? ⟨gb262, 0, none⟩ = some (.slice A2_0 l2_0.length c2_0) := (blk_cell BK262.out 0).trans rfl
        have hcz45_1 : wc.cell? ⟨gb262, 1, none⟩ = some (.int .i64 a2_1) := (blk_cell BK262.out 1).trans rfl
        have hfz45_0 := blk_frozen BK262.out 0
        have hfz45_1 := blk_frozen BK262.out 1
        go_upto_region 12 with (first | ((with_reducible refine gate_callee (f := 31) rfl ?_); refine goesL_ (some 86) rfl rfl Try.func31 (by kernel_rfl) rfl #[.agg #[.slice A2_0 l2_0.length c2_0, .int .i64 a2_1]] rfl (by (try simp only [List.map_toArray, List.map_cons, List.map_nil]); first | done | rfl | (simp only [List.length_drop, List.length_take]; rfl)) ?_; (with_reducible refine (layout_Rank.calls _ _ l2_0 a2_1 t276 _ ?side1 ?side2 A42.out).mono ?_); (case side1 => repeat (first | exact (Kd.V_reads' HO_263000.out).2.2 | (with_reducible refine Kd.C_alloc ?_ _) | (with_reducible refine Kd.C_drewN ?_ _) | (with_reducible refine Kd.C_drew ?_))); (case side2 => exact (Kd.V_reads' HO_263000.out).2.1); rintro e w46 ⟨rfl, hb⟩; refine ⟨_, rfl, ?_⟩; have n0_ := Aside0.mk (Kd.R_below (by (with_reducible repeat (first | apply Kd.R_alloc | apply Kd.R_drewN | apply Kd.R_drew)); exact HO_10.out) hb); have n1_ := Aside0.mk (Kd.R_below (by (with_reducible repeat (first | apply Kd.R_alloc | apply Kd.R_drewN | apply Kd.R_drew)); exact HO_14.out) hb); have n2_ := Aside0.mk (Kd.V_below (by (with_reducible repeat (first | apply Kd.V_alloc | apply Kd.V_drewN | apply Kd.V_drew)); exact HO_263000.out) hb); have n3_ := Aside0.mk (blk_below (g := gb261) (o := .cells #[.int .i64 a0_0, .int .i64 a0_1, .int .i64 a0_2, .slice A0_3 l0_3.length c0_3, .slice A0_4 l0_4.length c0_4] 24 (0, 0)) (by (with_reducible repeat (first | refine blk_drewN ?_ _ | refine blk_drew ?_ | refine blk_alloc ?_ _)); exact BK261.out) hb); have n4_ := Aside0.mk (blk_below (g := gb262) (o := .cells #[.slice A2_0 l2_0.length c2_0, .int .i64 a2_1] 27 (0, 0)) (by (with_reducible repeat (first | refine blk_drewN ?_ _ | refine blk_drew ?_ | refine blk_alloc ?_ _)); exact BK262.out) hb); have n5_ := Aside0.mk (below_step (by repeat (first | (with_reducible first | exact HB.out | apply below_alloc | apply pw_below_drewN | apply below_drew1 | refine below_set ?_ GE261.out | refine below_set ?_ GE262.out) | exact HB.out)) hb); clear HO_10; clear HO_14; clear HO_263000; clear BK261; clear BK262; clear HB; have HO_10 := n0_; have HO_14 := n1_; have HO_263000 := n2_; have BK261 := n3_; have BK262 := n4_; have HB := n5_; clear n0_ n1_ n2_ n3_ n4_ n5_; (try clear hb); (try clear hb2); (try clear hk); (try clear hi)))
        (try simp only [Act.put, List.setIfInBounds_toArray, List.set_cons_zero, List.set_cons_succ])
        go_cut [94] (fun v94 wc => ∃ (kq : Nat) (x94_42 : Bool), v94 = .bool x94_42 ∧ Aside0 (taquinlaw26_PuzzleSolves.j2 kq l1 a3 t263 t266 t270 t271 t272 t276 x94_42 a0_0 a0_1 a0_2 l0_3 l0_4 l2_0 a2_1 = some true) ∧ Aside0 (kq ≤ kj24) ∧ Aside0 (Kd.R (Kd.int .i64) 3 wc w.heap.size (fun k_ => (w.heap.size ≤ k_)) v267 t266) ∧ Aside0 (Kd.R k51 51 wc w.heap.size (fun k_ => (w.heap.size ≤ k_)) v273 t272) ∧ Aside0 (Kd.V Kd.bool 4 wc w.heap.size (fun k_ => (P2_0_ k_ ∨ w.heap.size ≤ k_) ∧ some k_ ≠ (v267 : Value).ownBlock ∧ some k_ ≠ (v273 : Value).ownBlock ∧ k_ ≠ gb261 ∧ k_ ≠ gb262) (.slice A2_0 l2_0.length c2_0) l2_0) ∧ Aside0 (wc.heap[gb261]? = some (.cells #[.int .i64 a0_0, .int .i64 a0_1, .int .i64 a0_2, (.slice A0_3 l0_3.length c0_3), (.slice A0_4 l0_4.length c0_4)] 24 (0, 0))) ∧ Aside0 (wc.heap[gb262]? = some (.cells #[(.slice A2_0 l2_0.length c2_0), .int .i64 a2_1] 27 (0, 0))) ∧ Aside0 (Below w.heap.size w wc))
        case first => as_aux_lemma =>
         have H := HC43.out
         clear HC43
         by_cases c47 : t276 < 0
         ·rw [if_pos c47] at H
          have c47b0 : decide (t276 < 0) = true := decide_eq_true c47
          clear c47
          (first | rw [c47b0] | (simp only [i64_w, i32_w]; rw [c47b0]) | skip)
          have H' := Aside0.mk H
          clear H
          go_wp2
          go_meet
          case rel => exact ⟨_, (true), (by first | rfl | (simp; done) | (simp [*]; done)), H', ⟨by have := HJ5.out; have := HJ24.out; first | omega | exact Nat.le_refl _⟩, ⟨by (with_reducible repeat (first | apply Kd.R_alloc | apply Kd.R_drewN | apply Kd.R_drew)); exact HO_10.out⟩, ⟨by (with_reducible repeat (first | apply Kd.R_alloc | apply Kd.R_drewN | apply Kd.R_drew)); exact HO_14.out⟩, ⟨by (with_reducible repeat (first | apply Kd.V_alloc | apply Kd.V_drewN | apply Kd.V_drew)); exact HO_263000.out⟩, ⟨by (with_reducible repeat (first | refine blk_drewN ?_ _ | refine blk_drew ?_ | refine blk_alloc ?_ _)); exact BK261.out⟩, ⟨by (with_reducible repeat (first | refine blk_drewN ?_ _ | refine blk_drew ?_ | refine blk_alloc ?_ _)); exact BK262.out⟩, ⟨by repeat (first | (with_reducible first | exact HB.out | apply below_alloc | apply pw_below_drewN | apply below_drew1 | refine below_set ?_ GE261.out | refine below_set ?_ GE262.out) | exact HB.out)⟩⟩
         ·rw [if_neg c47] at H
          have c47b0 : decide (t276 < 0) = false := decide_eq_false c47
          clear c47
          (first | rw [c47b0] | (simp only [i64_w, i32_w]; rw [c47b0]) | skip)
          have H' := Aside0.mk H
          clear H
          obtain ⟨Ao48, co48, eo48⟩ := Kd.R_slice HO_10.out
          subst eo48
          go_wp2
          go_meet
          case rel => exact ⟨_, (decide (t276 ≥ (t266.length : Int))), (by first | rfl | (simp; done) | (simp [*]; done)), H', ⟨by have := HJ5.out; have := HJ24.out; first | omega | exact Nat.le_refl _⟩, ⟨by (with_reducible repeat (first | apply Kd.R_alloc | apply Kd.R_drewN | apply Kd.R_drew)); exact HO_10.out⟩, ⟨by (with_reducible repeat (first | apply Kd.R_alloc | apply Kd.R_drewN | apply Kd.R_drew)); exact HO_14.out⟩, ⟨by (with_reducible repeat (first | apply Kd.V_alloc | apply Kd.V_drewN | apply Kd.V_drew)); exact HO_263000.out⟩, ⟨by (with_reducible repeat (first | refine blk_drewN ?_ _ | refine blk_drew ?_ | refine blk_alloc ?_ _)); exact BK261.out⟩, ⟨by (with_reducible repeat (first | refine blk_drewN ?_ _ | refine blk_drew ?_ | refine blk_alloc ?_ _)); exact BK262.out⟩, ⟨by repeat (first | (with_reducible first | exact HB.out | apply below_alloc | apply pw_below_drewN | apply below_drew1 | refine below_set ?_ GE261.out | refine below_set ?_ GE262.out) | exact HB.out)⟩⟩
        case rest => as_aux_lemma =>
         clear HC43
         try clear c1
         try clear c2
         try clear p2
         try clear c3
         try clear c4
         try clear c5
         try clear c11
         try clear c12
         try clear c14
         try clear c15
         try clear c16
         try clear c18
         try clear c20
         try clear c29
         try clear c31
         try clear c32
         try clear c36
         try clear c36b0
         try clear c36b1
         try clear c37
         try clear c37b0
         try clear c37b1
         try clear c38
         try clear c38b0
         try clear c38b1
         try clear c40
         try clear c41
         try clear c41b0
         try clear c41b1
         try clear c44
         try clear c47
         try clear c47b0
         try clear hcz13_0
         try clear hcz13_1
         try clear hcz13_2
         try clear hcz13_3
         try clear hcz13_4
         try clear hcz14_0
         try clear hcz14_1
         try clear hcz17_0
         try clear hcz17_1
         try clear hcz17_2
         try clear hcz17_3
         try clear hcz17_4
         try clear hcz18_0
         try clear hcz18_1
         try clear hcz30_0
         try clear hcz30_1
         try clear hcz30_2
         try clear hcz30_3
         try clear hcz30_4
         try clear hcz31_0
         try clear hcz31_1
         try clear hcz33_0
         try clear hcz33_1
         try clear hcz33_2
         try clear hcz33_3
         try clear hcz33_4
         try clear hcz34_0
         try clear hcz34_1
         try clear hcz45_0
         try clear hcz45_1
         try clear hfz13_0
         try clear hfz13_1
         try clear hfz13_2
         try clear hfz13_3
         try clear hfz13_4
         try clear hfz14_0
         try clear hfz14_1
         try clear hfz17_0
         try clear hfz17_1
         try clear hfz17_2
         try clear hfz17_3
         try clear hfz17_4
         try clear hfz18_0
         try clear hfz18_1
         try clear hfz30_0
         try clear hfz30_1
         try clear hfz30_2
         try clear hfz30_3
         try clear hfz30_4
         try clear hfz31_0
         try clear hfz31_1
         try clear hfz33_0
         try clear hfz33_1
         try clear hfz33_2
         try clear hfz33_3
         try clear hfz33_4
         try clear hfz34_0
         try clear hfz34_1
         try clear hfz45_0
         try clear hfz45_1
         try clear p2
         obtain ⟨kq, x94_42, rfl, HA, HJ42, HO_10, HO_14, HO_263000, BK261, BK262, HB⟩ := hcut
         cases kq with
         | zero => exact absurd HA.out (by simp [taquinlaw26_PuzzleSolves.j2])
         | succ kj42 =>
          have H := HA.out
          clear HA
          simp only [taquinlaw26_PuzzleSolves.j2] at H
          by_cases c49 : x94_42 = true
          ·subst c49
           have H1 : (some false) = some true := by rw [if_pos rfl] at H; exact H
           clear H
           have H := H1
           clear H1
           exact absurd H (by simp)
          ·replace c49 := Bool.eq_false_iff.mpr c49
           subst c49
           have H1 : (if 0 ≤ t276 then (if t276 < (t266.length : Int) then (if (rd t266 t276) < 0 then (if t263 = true then (some (t271 == 14)) else (some false)) else (if t271 = 0 then (if t270 = (rd t266 t276) then (taquinlaw26_PuzzleSolves.j3 kj42 l1 a3 t263 t266 t270 t272 ((t272.length : Int) != t270) a0_0 a0_1 a0_2 l0_3 l0_4 l2_0 a2_1) else (taquinlaw26_PuzzleSolves.j3 kj42 l1 a3 t263 t266 t270 t272 true a0_0 a0_1 a0_2 l0_3 l0_4 l2_0 a2_1)) else (taquinlaw26_PuzzleSolves.j3 kj42 l1 a3 t263 t266 t270 t272 true a0_0 a0_1 a0_2 l0_3 l0_4 l2_0 a2_1))) else (none)) else (none)) = some true := by rw [if_neg (show ¬ (false = true) by decide)] at H; exact H
           clear H
           have H := H1
           clear H1
           by_cases c50 : 0 ≤ t276
           ·rw [if_pos c50] at H
            have c50b0 : decide (0 ≤ t276) = true := decide_eq_true c50
            clear c50
            by_cases c51 : t276 < (t266.length : Int)
            ·rw [if_pos c51] at H
             have c51b0 : decide (t276 < (t266.length : Int)) = true := decide_eq_true c51
             clear c51
             by_cases c52 : (rd t266 t276) < 0
             ·rw [if_pos c52] at H
              have c52b0 : decide ((rd t266 t276) < 0) = true := decide_eq_true c52
              clear c52
              by_cases c53 : t263 = true
              ·subst c53
               have H1 : (some (t271 == 14)) = some true := by rw [if_pos rfl] at H; exact H
               clear H
               have H := H1
               clear H1
               have hr_ := Option.some.inj H
               obtain ⟨Ao54, co54, eo54⟩ := Kd.R_slice HO_10.out
               subst eo54
               have p277 : 0 ≤ (t276 : Int) := of_decide_eq_true (by first | (with_reducible assumption) | assumption)
               have q277 : t276 < (t266.length : Int) := of_decide_eq_true (by first | (with_reducible assumption) | assumption)
               obtain ⟨ad277, e277, hx277_0⟩ := Kd.at_int (Kd.R_reads' HO_10.out).2.2 t276 p277 q277
               cases e277
               replace p277 := eq_true p277
               replace q277 := eq_true q277
               go_wp2
               go_ret
               exact ⟨by first | rfl | (simp [errW_none, errW_some] <;> rfl) | (simp [*, errW_none, errW_some] <;> rfl), by repeat (first | (with_reducible first | exact HB.out | apply below_alloc | apply pw_below_drewN | apply below_drew1 | refine below_set ?_ GE261.out | refine below_set ?_ GE262.out) | exact HB.out)⟩
              ·replace c53 := Bool.eq_false_iff.mpr c53
               subst c53
               have H1 : (some false) = some true := by rw [if_neg (show ¬ (false = true) by decide)] at H; exact H
               clear H
               have H := H1
               clear H1
               exact absurd H (by simp)
             ·rw [if_neg c52] at H
              have c52b0 : decide ((rd t266 t276) < 0) = false := decide_eq_false c52
              clear c52
              have HC56 := Aside0.mk H
              clear H
              obtain ⟨Ao57, co57, eo57⟩ := Kd.R_slice HO_10.out
              subst eo57
              have p277 : 0 ≤ (t276 : Int) := of_decide_eq_true (by first | (with_reducible assumption) | assumption)
              have q277 : t276 < (t266.length : Int) := of_decide_eq_true (by first | (with_reducible assumption) | assumption)
              obtain ⟨ad277, e277, hx277_0⟩ := Kd.at_int (Kd.R_reads' HO_10.out).2.2 t276 p277 q277
              cases e277
              replace p277 := eq_true p277
              replace q277 := eq_true q277
              go_upto_region 16 with (fail)
              go_cut [120] (fun v120 wc => ∃ (kq : Nat) (x120_55 : Bool), v120 = .bool x120_55 ∧ Aside0 (taquinlaw26_PuzzleSolves.j3 kq l1 a3 t263 t266 t270 t272 x120_55 a0_0 a0_1 a0_2 l0_3 l0_4 l2_0 a2_1 = some true) ∧ Aside0 (kq ≤ kj42) ∧ Aside0 (Kd.R (Kd.int .i64) 3 wc w.heap.size (fun k_ => (w.heap.size ≤ k_)) (.slice (some ad277) t266.length co57) t266) ∧ Aside0 (Kd.R k51 51 wc w.heap.size (fun k_ => (w.heap.size ≤ k_)) v273 t272) ∧ Aside0 (Kd.V Kd.bool 4 wc w.heap.size (fun k_ => (P2_0_ k_ ∨ w.heap.size ≤ k_) ∧ some k_ ≠ ((.slice (some ad277) t266.length co57) : Value).ownBlock ∧ some k_ ≠ (v273 : Value).ownBlock ∧ k_ ≠ gb261 ∧ k_ ≠ gb262) (.slice A2_0 l2_0.length c2_0) l2_0) ∧ Aside0 (wc.heap[gb261]? = some (.cells #[.int .i64 a0_0, .int .i64 a0_1, .int .i64 a0_2, (.slice A0_3 l0_3.length c0_3), (.slice A0_4 l0_4.length c0_4)] 24 (0, 0))) ∧ Aside0 (wc.heap[gb262]? = some (.cells #[(.slice A2_0 l2_0.length c2_0), .int .i64 a2_1] 27 (0, 0))) ∧ Aside0 (Below w.heap.size w wc))
              case first => as_aux_lemma =>
               have H := HC56.out
               clear HC56
               by_cases c58 : t271 = 0
               ·rw [if_pos c58] at H
                have c58b0 : (t271 == 0) = true := beq_iff_eq.mpr c58
                have c58b1 : (t271 != 0) = false := bne_eq_false_iff_eq.mpr c58
                clear c58
                (first | rw [c58b0] | (simp only [i64_w, i32_w]; rw [c58b0]) | skip)
                by_cases c59 : t270 = (rd t266 t276)
                ·rw [if_pos c59] at H
                 have c59b0 : (t270 == (rd t266 t276)) = true := beq_iff_eq.mpr c59
                 have c59b1 : (t270 != (rd t266 t276)) = false := bne_eq_false_iff_eq.mpr c59
                 clear c59
                 have H' := Aside0.mk H
                 clear H
                 have p278 : 0 ≤ (t276 : Int) := of_decide_eq_true (by first | (with_reducible assumption) | assumption)
                 have q278 : t276 < (t266.length : Int) := of_decide_eq_true (by first | (with_reducible assumption) | assumption)
                 obtain ⟨ad278, e278, hx278_0⟩ := Kd.at_int (Kd.R_reads' HO_10.out).2.2 t276 p278 q278
                 obtain rfl : ad277 = ad278 := (by injection e278)
                 replace p278 := eq_true p278
                 replace q278 := eq_true q278
                 obtain ⟨Ao60, co60, eo60⟩ := Kd.R_slice HO_14.out
                 subst eo60
                 go_wp2
                 go_meet
                 case rel => exact ⟨_, (((t272.length : Int) != t270)), (by first | rfl | (simp; done) | (simp [*]; done)), H', ⟨by have := HJ5.out; have := HJ24.out; have := HJ42.out; first | omega | exact Nat.le_refl _⟩, ⟨by (with_reducible repeat (first | apply Kd.R_alloc | apply Kd.R_drewN | apply Kd.R_drew)); exact HO_10.out⟩, ⟨by (with_reducible repeat (first | apply Kd.R_alloc | apply Kd.R_drewN | apply Kd.R_drew)); exact HO_14.out⟩, ⟨by (with_reducible repeat (first | apply Kd.V_alloc | apply Kd.V_drewN | apply Kd.V_drew)); exact HO_263000.out⟩, ⟨by (with_reducible repeat (first | refine blk_drewN ?_ _ | refine blk_drew ?_ | refine blk_alloc ?_ _)); exact BK261.out⟩, ⟨by (with_reducible repeat (first | refine blk_drewN ?_ _ | refine blk_drew ?_ | refine blk_alloc ?_ _)); exact BK262.out⟩, ⟨by repeat (first | (with_reducible first | exact HB.out | apply below_alloc | apply pw_below_drewN | apply below_drew1 | refine below_set ?_ GE261.out | refine below_set ?_ GE262.out) | exact HB.out)⟩⟩
                ·rw [if_neg c59] at H
                 have c59b0 : (t270 == (rd t266 t276)) = false := beq_eq_false_iff_ne.mpr c59
                 have c59b1 : (t270 != (rd t266 t276)) = true := bne_iff_ne.mpr c59
                 have H' := Aside0.mk H
                 clear H
                 have p278 : 0 ≤ (t276 : Int) := of_decide_eq_true (by first | (with_reducible assumption) | assumption)
                 have q278 : t276 < (t266.length : Int) := of_decide_eq_true (by first | (with_reducible assumption) | assumption)
                 obtain ⟨ad278, e278, hx278_0⟩ := Kd.at_int (Kd.R_reads' HO_10.out).2.2 t276 p278 q278
                 obtain rfl : ad277 = ad278 := (by injection e278)
                 replace p278 := eq_true p278
                 replace q278 := eq_true q278
                 go_wp2
                 go_meet
                 case rel => exact ⟨_, (true), (by first | rfl | (simp; done) | (simp [*]; done)), H', ⟨by have := HJ5.out; have := HJ24.out; have := HJ42.out; first | omega | exact Nat.le_refl _⟩, ⟨by (with_reducible repeat (first | apply Kd.R_alloc | apply Kd.R_drewN | apply Kd.R_drew)); exact HO_10.out⟩, ⟨by (with_reducible repeat (first | apply Kd.R_alloc | apply Kd.R_drewN | apply Kd.R_drew)); exact HO_14.out⟩, ⟨by (with_reducible repeat (first | apply Kd.V_alloc | apply Kd.V_drewN | apply Kd.V_drew)); exact HO_263000.out⟩, ⟨by (with_reducible repeat (first | refine blk_drewN ?_ _ | refine blk_drew ?_ | refine blk_alloc ?_ _)); exact BK261.out⟩, ⟨by (with_reducible repeat (first | refine blk_drewN ?_ _ | refine blk_drew ?_ | refine blk_alloc ?_ _)); exact BK262.out⟩, ⟨by repeat (first | (with_reducible first | exact HB.out | apply below_alloc | apply pw_below_drewN | apply below_drew1 | refine below_set ?_ GE261.out | refine below_set ?_ GE262.out) | exact HB.out)⟩⟩
               ·rw [if_neg c58] at H
                have c58b0 : (t271 == 0) = false := beq_eq_false_iff_ne.mpr c58
                have c58b1 : (t271 != 0) = true := bne_iff_ne.mpr c58
                (first | rw [c58b0] | (simp only [i64_w, i32_w]; rw [c58b0]) | skip)
                have H' := Aside0.mk H
                clear H
                go_wp2
                go_meet
                case rel => exact ⟨_, (true), (by first | rfl | (simp; done) | (simp [*]; done)), H', ⟨by have := HJ5.out; have := HJ24.out; have := HJ42.out; first | omega | exact Nat.le_refl _⟩, ⟨by (with_reducible repeat (first | apply Kd.R_alloc | apply Kd.R_drewN | apply Kd.R_drew)); exact HO_10.out⟩, ⟨by (with_reducible repeat (first | apply Kd.R_alloc | apply Kd.R_drewN | apply Kd.R_drew)); exact HO_14.out⟩, ⟨by (with_reducible repeat (first | apply Kd.V_alloc | apply Kd.V_drewN | apply Kd.V_drew)); exact HO_263000.out⟩, ⟨by (with_reducible repeat (first | refine blk_drewN ?_ _ | refine blk_drew ?_ | refine blk_alloc ?_ _)); exact BK261.out⟩, ⟨by (with_reducible repeat (first | refine blk_drewN ?_ _ | refine blk_drew ?_ | refine blk_alloc ?_ _)); exact BK262.out⟩, ⟨by repeat (first | (with_reducible first | exact HB.out | apply below_alloc | apply pw_below_drewN | apply below_drew1 | refine below_set ?_ GE261.out | refine below_set ?_ GE262.out) | exact HB.out)⟩⟩
              case rest => as_aux_lemma =>
               clear HC56
               try clear c1
               try clear c2
               try clear p2
               try clear q2
               try clear hx2
               try clear c3
               try clear c4
               try clear c5
               try clear c11
               try clear c12
               try clear c14
               try clear c15
               try clear c16
               try clear c18
               try clear c20
               try clear p27
               try clear q27
               try clear hx27
               try clear c29
               try clear c31
               try clear c32
               try clear c36
               try clear c36b0
               try clear c36b1
               try clear c37
               try clear c37b0
               try clear c37b1
               try clear c38
               try clear c38b0
               try clear c38b1
               try clear c40
               try clear c41
               try clear c41b0
               try clear c41b1
               try clear c44
               try clear c47
               try clear c47b0
               try clear c49
               try clear c50
               try clear c50b0
               try clear c51
               try clear c51b0
               try clear c52
               try clear c52b0
               try clear c53
               try clear c58
               try clear c58b0
               try clear c58b1
               try clear c59
               try clear c59b0
               try clear c59b1
               try clear hcz13_0
               try clear hcz13_1
               try clear hcz13_2
               try clear hcz13_3
               try clear hcz13_4
               try clear hcz14_0
               try clear hcz14_1
               try clear hcz17_0
               try clear hcz17_1
               try clear hcz17_2
               try clear hcz17_3
               try clear hcz17_4
               try clear hcz18_0
               try clear hcz18_1
               try clear hcz30_0
               try clear hcz30_1
               try clear hcz30_2
               try clear hcz30_3
               try clear hcz30_4
               try clear hcz31_0
               try clear hcz31_1
               try clear hcz33_0
               try clear hcz33_1
               try clear hcz33_2
               try clear hcz33_3
               try clear hcz33_4
               try clear hcz34_0
               try clear hcz34_1
               try clear hcz45_0
               try clear hcz45_1
               try clear hfz13_0
               try clear hfz13_1
               try clear hfz13_2
               try clear hfz13_3
               try clear hfz13_4
               try clear hfz14_0
               try clear hfz14_1
               try clear hfz17_0
               try clear hfz17_1
               try clear hfz17_2
               try clear hfz17_3
               try clear hfz17_4
               try clear hfz18_0
               try clear hfz18_1
               try clear hfz30_0
               try clear hfz30_1
               try clear hfz30_2
               try clear hfz30_3
               try clear hfz30_4
               try clear hfz31_0
               try clear hfz31_1
               try clear hfz33_0
               try clear hfz33_1
               try clear hfz33_2
               try clear hfz33_3
               try clear hfz33_4
               try clear hfz34_0
               try clear hfz34_1
               try clear hfz45_0
               try clear hfz45_1
               try clear hx277_0
               try clear hx278_0
               try clear p2
               try clear p277
               try clear p278
               try clear q277
               try clear q278
               obtain ⟨kq, x120_55, rfl, HA, HJ55, HO_10, HO_14, HO_263000, BK261, BK262, HB⟩ := hcut
               cases kq with
               | zero => exact absurd HA.out (by simp [taquinlaw26_PuzzleSolves.j3])
               | succ kj55 =>
                have H := HA.out
                clear HA
                simp only [taquinlaw26_PuzzleSolves.j3] at H
                by_cases c61 : x120_55 = true
                ·subst c61
                 have H1 : (some false) = some true := by rw [if_pos rfl] at H; exact H
                 clear H
                 have H := H1
                 clear H1
                 exact absurd H (by simp)
                ·replace c61 := Bool.eq_false_iff.mpr c61
                 subst c61
                 have H1 : (taquinlaw26_PuzzleSolves.l0 kj55 l1 a3 t263 t266 t270 t272 0 a0_0 a0_1 a0_2 l0_3 l0_4 l2_0 a2_1) = some true := by rw [if_neg (show ¬ (false = true) by decide)] at H; exact H
                 clear H
                 have H := H1
                 clear H1
                 have H' := Aside0.mk H
                 clear H
                 go_wp2
                 go_loopg [17] kj55 (fun kq v17 w' => ∃ (x17_5 : Int) (x263000_5 : List Bool) (x263001_5 : Int) (u263000 : Value), v17 = .int .i64 x17_5 ∧ Aside0 (taquinlaw26_PuzzleSolves.l0 kq l1 a3 t263 t266 t270 t272 x17_5 a0_0 a0_1 a0_2 l0_3 l0_4 x263000_5 x263001_5 = some true) ∧ Aside0 (kq ≤ kj55) ∧ Aside0 (Kd.R (Kd.int .i64) 3 w' w.heap.size (fun k_ => (w.heap.size ≤ k_)) (.slice (some ad277) t266.length co57) t266) ∧ Aside0 (Kd.R k51 51 w' w.heap.size (fun k_ => (w.heap.size ≤ k_)) v273 t272) ∧ Aside0 (Kd.V Kd.bool 4 w' w.heap.size (fun k_ => (P2_0_ k_ ∨ w.heap.size ≤ k_) ∧ some k_ ≠ ((.slice (some ad277) t266.length co57) : Value).ownBlock ∧ some k_ ≠ (v273 : Value).ownBlock ∧ k_ ≠ gb261 ∧ k_ ≠ gb262) u263000 x263000_5) ∧ Aside0 (w'.heap[gb261]? = some (.cells #[.int .i64 a0_0, .int .i64 a0_1, .int .i64 a0_2, (.slice A0_3 l0_3.length c0_3), (.slice A0_4 l0_4.length c0_4)] 24 (0, 0))) ∧ Aside0 (w'.heap[gb262]? = some (.cells #[u263000, .int .i64 x263001_5] 27 (0, 0))) ∧ Aside0 (Below w.heap.size w w'))
                 case atStart => exact ⟨(0), (l2_0), (a2_1), (.slice A2_0 l2_0.length c2_0), (by first | rfl | (simp; done) | (simp [*]; done)), H', ⟨Nat.le_refl _⟩, ⟨by (with_reducible repeat (first | apply Kd.R_alloc | apply Kd.R_drewN | apply Kd.R_drew)); exact HO_10.out⟩, ⟨by (with_reducible repeat (first | apply Kd.R_alloc | apply Kd.R_drewN | apply Kd.R_drew)); exact HO_14.out⟩, ⟨by (with_reducible repeat (first | apply Kd.V_alloc | apply Kd.V_drewN | apply Kd.V_drew)); exact HO_263000.out⟩, ⟨by (with_reducible repeat (first | refine blk_drewN ?_ _ | refine blk_drew ?_ | refine blk_alloc ?_ _)); exact BK261.out⟩, ⟨by (with_reducible repeat (first | refine blk_drewN ?_ _ | refine blk_drew ?_ | refine blk_alloc ?_ _)); exact BK262.out⟩, ⟨by repeat (first | (with_reducible first | exact HB.out | apply below_alloc | apply pw_below_drewN | apply below_drew1 | refine below_set ?_ GE261.out | refine below_set ?_ GE262.out) | exact HB.out)⟩⟩
                 case round => as_aux_lemma =>
                  clear H'
                  try clear c1
                  try clear c2
                  try clear p2
                  try clear q2
                  try clear hx2
                  try clear c3
                  try clear c4
                  try clear c5
                  try clear c6
                  try clear c11
                  try clear c12
                  try clear c14
                  try clear c15
                  try clear c16
                  try clear c18
                  try clear c20
                  try clear p27
                  try clear q27
                  try clear hx27
                  try clear c29
                  try clear c31
                  try clear c32
                  try clear c36
                  try clear c36b0
                  try clear c36b1
                  try clear c37
                  try clear c37b0
                  try clear c37b1
                  try clear c38
                  try clear c38b0
                  try clear c38b1
                  try clear c40
                  try clear c41
                  try clear c41b0
                  try clear c41b1
                  try clear c44
                  try clear c47
                  try clear c47b0
                  try clear c49
                  try clear c50
                  try clear c50b0
                  try clear c51
                  try clear c51b0
                  try clear c52
                  try clear c52b0
                  try clear c53
                  try clear c58
                  try clear c58b0
                  try clear c58b1
                  try clear c59
                  try clear c59b0
                  try clear c59b1
                  try clear c61
                  try clear hcz13_0
                  try clear hcz13_1
                  try clear hcz13_2
                  try clear hcz13_3
                  try clear hcz13_4
                  try clear hcz14_0
                  try clear hcz14_1
                  try clear hcz17_0
                  try clear hcz17_1
                  try clear hcz17_2
                  try clear hcz17_3
                  try clear hcz17_4
                  try clear hcz18_0
                  try clear hcz18_1
                  try clear hcz30_0
                  try clear hcz30_1
                  try clear hcz30_2
                  try clear hcz30_3
                  try clear hcz30_4
                  try clear hcz31_0
                  try clear hcz31_1
                  try clear hcz33_0
                  try clear hcz33_1
                  try clear hcz33_2
                  try clear hcz33_3
                  try clear hcz33_4
                  try clear hcz34_0
                  try clear hcz34_1
                  try clear hcz45_0
                  try clear hcz45_1
                  try clear hfz13_0
                  try clear hfz13_1
                  try clear hfz13_2
                  try clear hfz13_3
                  try clear hfz13_4
                  try clear hfz14_0
                  try clear hfz14_1
                  try clear hfz17_0
                  try clear hfz17_1
                  try clear hfz17_2
                  try clear hfz17_3
                  try clear hfz17_4
                  try clear hfz18_0
                  try clear hfz18_1
                  try clear hfz30_0
                  try clear hfz30_1
                  try clear hfz30_2
                  try clear hfz30_3
                  try clear hfz30_4
                  try clear hfz31_0
                  try clear hfz31_1
                  try clear hfz33_0
                  try clear hfz33_1
                  try clear hfz33_2
                  try clear hfz33_3
                  try clear hfz33_4
                  try clear hfz34_0
                  try clear hfz34_1
                  try clear hfz45_0
                  try clear hfz45_1
                  try clear hx277_0
                  try clear hx278_0
                  try clear p2
                  try clear p27
                  try clear p277
                  try clear p278
                  try clear q2
                  try clear q27
                  try clear q277
                  try clear q278
                  obtain ⟨x17_5, x263000_5, x263001_5, u263000, rfl, HA, HK5, HO_10, HO_14, HO_263000, BK261, BK262, HB⟩ := hrel
                  cases gk with
                  | zero => exact absurd HA.out (by simp [taquinlaw26_PuzzleSolves.l0])
                  | succ k5 =>
                   have H := HA.out
                   clear HA
                   simp only [taquinlaw26_PuzzleSolves.l0] at H
                   by_cases c62 : x17_5 < (t272.length : Int)
                   ·rw [if_pos c62] at H
                    have c62b0 : decide (x17_5 < (t272.length : Int)) = true := decide_eq_true c62
                    clear c62
                    replace H := Option.bind_eq_some_iff.mp H
                    obtain ⟨t279, A630, H⟩ := H
                    replace H : (taquinlaw26_PuzzleSolves.l1 k5 l1 a3 t263 t266 t270 t272 x17_5 t279 (-1) 0 a0_0 a0_1 a0_2 l0_3 l0_4 x263000_5 x263001_5) = some true := H
                    have A63 := Aside0.mk A630
                    clear A630
                    have H' := Aside0.mk H
                    clear H
                    obtain ⟨Ao64, co64, eo64⟩ := Kd.R_slice HO_14.out
                    subst eo64
                    have hnb65 := NB261_262.out
                    have hnc65 := NB262_261.out
                    have hcz66_0 : wr.cell? ⟨gb261, 0, none⟩ = some (.int .i64 a0_0) := (blk_cell BK261.out 0).trans rfl
                    have hcz66_1 : wr.cell? ⟨gb261, 1, none⟩ = some (.int .i64 a0_1) := (blk_cell BK261.out 1).trans rfl
                    have hcz66_2 : wr.cell? ⟨gb261, 2, none⟩ = some (.int .i64 a0_2) := (blk_cell BK261.out 2).trans rfl
                    have hcz66_3 : wr.cell? ⟨gb261, 3, none⟩ = some (.slice A0_3 l0_3.length c0_3) := (blk_cell BK261.out 3).trans rfl
                    have hcz66_4 : wr.cell? ⟨gb261, 4, none⟩ = some (.slice A0_4 l0_4.length c0_4) := (blk_cell BK261.out 4).trans rfl
                    have hfz66_0 := blk_frozen BK261.out 0
                    have hfz66_1 := blk_frozen BK261.out 1
                    have hfz66_2 := blk_frozen BK261.out 2
                    have hfz66_3 := blk_frozen BK261.out 3
                    have hfz66_4 := blk_frozen BK261.out 4
                    have hcz67_0 : wr.cell? ⟨gb262, 0, none⟩ = some (u263000) := (blk_cell BK262.out 0).trans rfl
                    have hcz67_1 : wr.cell? ⟨gb262, 1, none⟩ = some (.int .i64 x263001_5) := (blk_cell BK262.out 1).trans rfl
                    have hfz67_0 := blk_frozen BK262.out 0
                    have hfz67_1 := blk_frozen BK262.out 1
                    obtain ⟨Ao68, co68, eo68⟩ := Kd.V_slice HO_263000.out
                    subst eo68
                    go_wp2_with (first | ((with_reducible refine gate_callee (f := 29) rfl ?_); refine goesL_ (some 130) rfl rfl Try.func29 (by kernel_rfl) rfl #[.agg #[.int .i64 a0_0, .int .i64 a0_1, .int .i64 a0_2, .slice A0_3 l0_3.length c0_3, .slice A0_4 l0_4.length c0_4], .slice A1 l1.length c1, .agg #[.slice Ao68 x263000_5.length co68, .int .i64 x263001_5]] rfl (by (try simp only [List.map_toArray, List.map_cons, List.map_nil]); first | done | rfl | (simp only [List.length_drop, List.length_take]; rfl)) ?_; (with_reducible refine (layout_Shifts.calls a0_0 a0_1 a0_2 _ _ l0_3 _ _ l0_4 _ _ l1 _ _ x263000_5 x263001_5 t279 _ ?side1 ?side2 ?side3 ?side4 ?side5 ?side6 ?side7 ?side8 A63.out).mono ?_); (case side1 => repeat (first | exact (Kd.C_below HR0_3.out HB.out) | (with_reducible refine Kd.C_alloc ?_ _) | (with_reducible refine Kd.C_drewN ?_ _) | (with_reducible refine Kd.C_drew ?_))); (case side2 => exact HC0_3.out); (case side3 => repeat (first | exact (Kd.C_below HR0_4.out HB.out) | (with_reducible refine Kd.C_alloc ?_ _) | (with_reducible refine Kd.C_drewN ?_ _) | (with_reducible refine Kd.C_drew ?_))); (case side4 => exact HC0_4.out); (case side5 => repeat (first | exact (Kd.C_below HR1.out HB.out) | (with_reducible refine Kd.C_alloc ?_ _) | (with_reducible refine Kd.C_drewN ?_ _) | (with_reducible refine Kd.C_drew ?_))); (case side6 => exact HC1.out); (case side7 => repeat (first | exact (Kd.V_reads' HO_263000.out).2.2 | (with_reducible refine Kd.C_alloc ?_ _) | (with_reducible refine Kd.C_drewN ?_ _) | (with_reducible refine Kd.C_drew ?_))); (case side8 => exact (Kd.V_reads' HO_263000.out).2.1); rintro e w69 ⟨v280, rfl, ho0, hb⟩; refine ⟨_, rfl, ?_⟩; have n0_ := Aside0.mk (Kd.R_below (by (with_reducible repeat (first | apply Kd.R_alloc | apply Kd.R_drewN | apply Kd.R_drew)); exact HO_10.out) hb); have n1_ := Aside0.mk (Kd.R_elder' (by (with_reducible repeat (first | apply Kd.R_alloc | apply Kd.R_drewN | apply Kd.R_drew)); exact HO_14.out) (Kd.R_base ho0) hb); have n2_ := Aside0.mk (Kd.V_elder' (by (with_reducible repeat (first | apply Kd.V_alloc | apply Kd.V_drewN | apply Kd.V_drew)); exact HO_263000.out) (Kd.R_base ho0) hb); have n3_ := Aside0.mk (Kd.R_lower (Kd.R_new' (Kd.R_newM (M := fun k_ => (w.heap.size ≤ k_)) ho0 (below_size (by repeat (first | (with_reducible first | exact HB.out | apply below_alloc | apply pw_below_drewN | apply below_drew1 | refine below_set ?_ GE261.out | refine below_set ?_ GE262.out) | exact HB.out))) (fun k_ h_ => h_)) (Kd.R_lt (by (with_reducible repeat (first | apply Kd.R_alloc | apply Kd.R_drewN | apply Kd.R_drew)); exact HO_14.out))) (below_size (by repeat (first | (with_reducible first | exact HB.out | apply below_alloc | apply pw_below_drewN | apply below_drew1 | refine below_set ?_ GE261.out | refine below_set ?_ GE262.out) | exact HB.out)))); have n4_ := Aside0.mk (blk_below (g := gb261) (o := .cells #[.int .i64 a0_0, .int .i64 a0_1, .int .i64 a0_2, .slice A0_3 l0_3.length c0_3, .slice A0_4 l0_4.length c0_4] 24 (0, 0)) (by (with_reducible repeat (first | refine blk_drewN ?_ _ | refine blk_drew ?_ | refine blk_alloc ?_ _)); exact BK261.out) hb); have n5_ := Aside0.mk (blk_below (g := gb262) (o := .cells #[.slice Ao68 x263000_5.length co68, .int .i64 x263001_5] 27 (0, 0)) (by (with_reducible repeat (first | refine blk_drewN ?_ _ | refine blk_drew ?_ | refine blk_alloc ?_ _)); exact BK262.out) hb); have n6_ := Aside0.mk (below_step (by repeat (first | (with_reducible first | exact HB.out | apply below_alloc | apply pw_below_drewN | apply below_drew1 | refine below_set ?_ GE261.out | refine below_set ?_ GE262.out) | exact HB.out)) hb); clear HO_10; clear HO_14; clear HO_263000; clear BK261; clear BK262; clear HB; have HO_10 := n0_; have HO_14 := n1_; have HO_263000 := n2_; have HO281 := n3_; have BK261 := n4_; have BK262 := n5_; have HB := n6_; clear n0_ n1_ n2_ n3_ n4_ n5_ n6_; (try clear hb); (try clear hb2); (try clear hk); (try clear hi); (try clear ho0)))
                    go_loopg [19, 20] k5 (fun kq v19 v20 w' => ∃ (x19_6 : Int) (x20_6 : Int), v19 = .int .i64 x19_6 ∧ v20 = .int .i64 x20_6 ∧ Aside0 (taquinlaw26_PuzzleSolves.l1 kq l1 a3 t263 t266 t270 t272 x17_5 t279 x19_6 x20_6 a0_0 a0_1 a0_2 l0_3 l0_4 x263000_5 x263001_5 = some true) ∧ Aside0 (kq ≤ k5) ∧ Aside0 (Kd.R (Kd.int .i64) 3 w' w.heap.size (fun k_ => (w.heap.size ≤ k_)) (.slice (some ad277) t266.length co57) t266) ∧ Aside0 (Kd.R k51 51 w' w.heap.size (fun k_ => (w.heap.size ≤ k_) ∧ some k_ ≠ (v280 : Value).ownBlock) (.slice Ao64 t272.length co64) t272) ∧ Aside0 (Kd.R k51 51 w' w.heap.size (fun k_ => (w.heap.size ≤ k_) ∧ some k_ ≠ ((.slice Ao64 t272.length co64) : Value).ownBlock) v280 t279) ∧ Aside0 (Kd.V Kd.bool 4 w' w.heap.size (fun k_ => (P2_0_ k_ ∨ w.heap.size ≤ k_) ∧ some k_ ≠ ((.slice (some ad277) t266.length co57) : Value).ownBlock ∧ some k_ ≠ ((.slice Ao64 t272.length co64) : Value).ownBlock ∧ some k_ ≠ (v280 : Value).ownBlock ∧ k_ ≠ gb261 ∧ k_ ≠ gb262) (.slice Ao68 x263000_5.length co68) x263000_5) ∧ Aside0 (w'.heap[gb261]? = some (.cells #[.int .i64 a0_0, .int .i64 a0_1, .int .i64 a0_2, (.slice A0_3 l0_3.length c0_3), (.slice A0_4 l0_4.length c0_4)] 24 (0, 0))) ∧ Aside0 (w'.heap[gb262]? = some (.cells #[(.slice Ao68 x263000_5.length co68), .int .i64 x263001_5] 27 (0, 0))) ∧ Aside0 (Below w.heap.size w w'))
                    case atStart => exact ⟨((-1)), (0), (by first | rfl | (simp; done) | (simp [*]; done)), (by first | rfl | (simp; done) | (simp [*]; done)), H', ⟨Nat.le_refl _⟩, ⟨by (with_reducible repeat (first | apply Kd.R_alloc | apply Kd.R_drewN | apply Kd.R_drew)); exact HO_10.out⟩, ⟨by (with_reducible repeat (first | apply Kd.R_alloc | apply Kd.R_drewN | apply Kd.R_drew)); exact HO_14.out⟩, ⟨by (with_reducible repeat (first | apply Kd.R_alloc | apply Kd.R_drewN | apply Kd.R_drew)); exact Kd.R_mono HO281.out (fun _ hk => ⟨hk.1.1, hk.2⟩)⟩, ⟨by (with_reducible repeat (first | apply Kd.V_alloc | apply Kd.V_drewN | apply Kd.V_drew)); exact Kd.V_mono HO_263000.out (fun _ hk => ⟨hk.1.1, ⟨hk.1.2.1, ⟨hk.1.2.2.1, ⟨hk.2, ⟨hk.1.2.2.2.1, hk.1.2.2.2.2⟩⟩⟩⟩⟩)⟩, ⟨by (with_reducible repeat (first | refine blk_drewN ?_ _ | refine blk_drew ?_ | refine blk_alloc ?_ _)); exact BK261.out⟩, ⟨by (with_reducible repeat (first | refine blk_drewN ?_ _ | refine blk_drew ?_ | refine blk_alloc ?_ _)); exact BK262.out⟩, ⟨by repeat (first | (with_reducible first | exact HB.out | apply below_alloc | apply pw_below_drewN | apply below_drew1 | refine below_set ?_ GE261.out | refine below_set ?_ GE262.out) | exact HB.out)⟩⟩
                    case round => as_aux_lemma =>
                     clear H'
                     try clear c1
                     try clear c2
                     try clear p2
                     try clear q2
                     try clear hx2
                     try clear c3
                     try clear c4
                     try clear c5
                     try clear c6
                     try clear c11
                     try clear c12
                     try clear c14
                     try clear c15
                     try clear c16
                     try clear c18
                     try clear c20
                     try clear p27
                     try clear q27
                     try clear hx27
                     try clear c29
                     try clear c31
                     try clear c32
                     try clear c36
                     try clear c36b0
                     try clear c36b1
                     try clear c37
                     try clear c37b0
                     try clear c37b1
                     try clear c38
                     try clear c38b0
                     try clear c38b1
                     try clear c40
                     try clear c41
                     try clear c41b0
                     try clear c41b1
                     try clear c44
                     try clear c47
                     try clear c47b0
                     try clear c49
                     try clear c50
                     try clear c50b0
                     try clear c51
                     try clear c51b0
                     try clear c52
                     try clear c52b0
                     try clear c53
                     try clear c58
                     try clear c58b0
                     try clear c58b1
                     try clear c59
                     try clear c59b0
                     try clear c59b1
                     try clear c61
                     try clear c62
                     try clear c62b0
                     try clear c65
                     try clear hcz13_0
                     try clear hcz13_1
                     try clear hcz13_2
                     try clear hcz13_3
                     try clear hcz13_4
                     try clear hcz14_0
                     try clear hcz14_1
                     try clear hcz17_0
                     try clear hcz17_1
                     try clear hcz17_2
                     try clear hcz17_3
                     try clear hcz17_4
                     try clear hcz18_0
                     try clear hcz18_1
                     try clear hcz30_0
                     try clear hcz30_1
                     try clear hcz30_2
                     try clear hcz30_3
                     try clear hcz30_4
                     try clear hcz31_0
                     try clear hcz31_1
                     try clear hcz33_0
                     try clear hcz33_1
                     try clear hcz33_2
                     try clear hcz33_3
                     try clear hcz33_4
                     try clear hcz34_0
                     try clear hcz34_1
                     try clear hcz45_0
                     try clear hcz45_1
                     try clear hcz66_0
                     try clear hcz66_1
                     try clear hcz66_2
                     try clear hcz66_3
                     try clear hcz66_4
                     try clear hcz67_0
                     try clear hcz67_1
                     try clear hfz13_0
                     try clear hfz13_1
                     try clear hfz13_2
                     try clear hfz13_3
                     try clear hfz13_4
                     try clear hfz14_0
                     try clear hfz14_1
                     try clear hfz17_0
                     try clear hfz17_1
                     try clear hfz17_2
                     try clear hfz17_3
                     try clear hfz17_4
                     try clear hfz18_0
                     try clear hfz18_1
                     try clear hfz30_0
                     try clear hfz30_1
                     try clear hfz30_2
                     try clear hfz30_3
                     try clear hfz30_4
                     try clear hfz31_0
                     try clear hfz31_1
                     try clear hfz33_0
                     try clear hfz33_1
                     try clear hfz33_2
                     try clear hfz33_3
                     try clear hfz33_4
                     try clear hfz34_0
                     try clear hfz34_1
                     try clear hfz45_0
                     try clear hfz45_1
                     try clear hfz66_0
                     try clear hfz66_1
                     try clear hfz66_2
                     try clear hfz66_3
                     try clear hfz66_4
                     try clear hfz67_0
                     try clear hfz67_1
                     try clear hx277_0
                     try clear hx278_0
                     try clear p2
                     try clear p27
                     try clear p277
                     try clear p278
                     try clear q2
                     try clear q27
                     try clear q277
                     try clear q278
                     obtain ⟨x19_6, x20_6, rfl, rfl, HA, HK6, HO_10, HO_14, HO_18, HO_263000, BK261, BK262, HB⟩ := hrel
                     cases gk with
                     | zero => exact absurd HA.out (by simp [taquinlaw26_PuzzleSolves.l1])
                     | succ k6 =>
                      have H := HA.out
                      clear HA
                      simp only [taquinlaw26_PuzzleSolves.l1] at H
                      have HC70 := Aside0.mk H
                      clear H
                      go_upto_region 24 with (fail)
                      go_cut [138] (fun v138 wc => ∃ (kq : Nat) (x138_69 : Bool), v138 = .bool x138_69 ∧ Aside0 (taquinlaw26_PuzzleSolves.j6 kq l1 a3 t263 t266 t270 t272 x17_5 t279 x19_6 x20_6 x138_69 a0_0 a0_1 a0_2 l0_3 l0_4 x263000_5 x263001_5 = some true) ∧ Aside0 (kq ≤ k6) ∧ Aside0 (Kd.R (Kd.int .i64) 3 wc w.heap.size (fun k_ => (w.heap.size ≤ k_)) (.slice (some ad277) t266.length co57) t266) ∧ Aside0 (Kd.R k51 51 wc w.heap.size (fun k_ => (w.heap.size ≤ k_) ∧ some k_ ≠ (v280 : Value).ownBlock) (.slice Ao64 t272.length co64) t272) ∧ Aside0 (Kd.R k51 51 wc w.heap.size (fun k_ => (w.heap.size ≤ k_) ∧ some k_ ≠ ((.slice Ao64 t272.length co64) : Value).ownBlock) v280 t279) ∧ Aside0 (Kd.V Kd.bool 4 wc w.heap.size (fun k_ => (P2_0_ k_ ∨ w.heap.size ≤ k_) ∧ some k_ ≠ ((.slice (some ad277) t266.length co57) : Value).ownBlock ∧ some k_ ≠ ((.slice Ao64 t272.length co64) : Value).ownBlock ∧ some k_ ≠ (v280 : Value).ownBlock ∧ k_ ≠ gb261 ∧ k_ ≠ gb262) (.slice Ao68 x263000_5.length co68) x263000_5) ∧ Aside0 (wc.heap[gb261]? = some (.cells #[.int .i64 a0_0, .int .i64 a0_1, .int .i64 a0_2, (.slice A0_3 l0_3.length c0_3), (.slice A0_4 l0_4.length c0_4)] 24 (0, 0))) ∧ Aside0 (wc.heap[gb262]? = some (.cells #[(.slice Ao68 x263000_5.length co68), .int .i64 x263001_5] 27 (0, 0))) ∧ Aside0 (Below w.heap.size w wc))
                      case first => as_aux_lemma =>
                       have H := HC70.out
                       clear HC70
                       by_cases c71 : x20_6 < (t279.length : Int)
                       ·rw [if_pos c71] at H
                        have c71b0 : decide (x20_6 < (t279.length : Int)) = true := decide_eq_true c71
                        clear c71
                        (first | rw [c71b0] | (simp only [i64_w, i32_w]; rw [c71b0]) | skip)
                        have H' := Aside0.mk H
                        clear H
                        obtain ⟨Ao72, co72, eo72⟩ := Kd.R_slice HO_18.out
                        subst eo72
                        go_wp2
                        go_meet
                        case rel => exact ⟨_, (decide (x19_6 < 0)), (by first | rfl | (simp; done) | (simp [*]; done)), H', ⟨by have := HJ5.out; have := HJ24.out; have := HJ42.out; have := HJ55.out; have := HK5.out; have := HK6.out; first | omega | exact Nat.le_refl _⟩, ⟨by (with_reducible repeat (first | apply Kd.R_alloc | apply Kd.R_drewN | apply Kd.R_drew)); exact HO_10.out⟩, ⟨by (with_reducible repeat (first | apply Kd.R_alloc | apply Kd.R_drewN | apply Kd.R_drew)); exact HO_14.out⟩, ⟨by (with_reducible repeat (first | apply Kd.R_alloc | apply Kd.R_drewN | apply Kd.R_drew)); exact HO_18.out⟩, ⟨by (with_reducible repeat (first | apply Kd.V_alloc | apply Kd.V_drewN | apply Kd.V_drew)); exact HO_263000.out⟩, ⟨by (with_reducible repeat (first | refine blk_drewN ?_ _ | refine blk_drew ?_ | refine blk_alloc ?_ _)); exact BK261.out⟩, ⟨by (with_reducible repeat (first | refine blk_drewN ?_ _ | refine blk_drew ?_ | refine blk_alloc ?_ _)); exact BK262.out⟩, ⟨by repeat (first | (with_reducible first | exact HB.out | apply below_alloc | apply pw_below_drewN | apply below_drew1 | refine below_set ?_ GE261.out | refine below_set ?_ GE262.out) | exact HB.out)⟩⟩
                       ·rw [if_neg c71] at H
                        have c71b0 : decide (x20_6 < (t279.length : Int)) = false := decide_eq_false c71
                        clear c71
                        (first | rw [c71b0] | (simp only [i64_w, i32_w]; rw [c71b0]) | skip)
                        have H' := Aside0.mk H
                        clear H
                        obtain ⟨Ao73, co73, eo73⟩ := Kd.R_slice HO_18.out
                        subst eo73
                        go_wp2
                        go_meet
                        case rel => exact ⟨_, (false), (by first | rfl | (simp; done) | (simp [*]; done)), H', ⟨by have := HJ5.out; have := HJ24.out; have := HJ42.out; have := HJ55.out; have := HK5.out; have := HK6.out; first | omega | exact Nat.le_refl _⟩, ⟨by (with_reducible repeat (first | apply Kd.R_alloc | apply Kd.R_drewN | apply Kd.R_drew)); exact HO_10.out⟩, ⟨by (with_reducible repeat (first | apply Kd.R_alloc | apply Kd.R_drewN | apply Kd.R_drew)); exact HO_14.out⟩, ⟨by (with_reducible repeat (first | apply Kd.R_alloc | apply Kd.R_drewN | apply Kd.R_drew)); exact HO_18.out⟩, ⟨by (with_reducible repeat (first | apply Kd.V_alloc | apply Kd.V_drewN | apply Kd.V_drew)); exact HO_263000.out⟩, ⟨by (with_reducible repeat (first | refine blk_drewN ?_ _ | refine blk_drew ?_ | refine blk_alloc ?_ _)); exact BK261.out⟩, ⟨by (with_reducible repeat (first | refine blk_drewN ?_ _ | refine blk_drew ?_ | refine blk_alloc ?_ _)); exact BK262.out⟩, ⟨by repeat (first | (with_reducible first | exact HB.out | apply below_alloc | apply pw_below_drewN | apply below_drew1 | refine below_set ?_ GE261.out | refine below_set ?_ GE262.out) | exact HB.out)⟩⟩
                      case rest => as_aux_lemma =>
                       clear HC70
                       try clear c1
                       try clear c2
                       try clear p2
                       try clear q2
                       try clear hx2
                       try clear c3
                       try clear c4
                       try clear c5
                       try clear c6
                       try clear c7
                       try clear c11
                       try clear c12
                       try clear c14
                       try clear c15
                       try clear c16
                       try clear c18
                       try clear c20
                       try clear p27
                       try clear q27
                       try clear hx27
                       try clear c29
                       try clear c31
                       try clear c32
                       try clear c36
                       try clear c36b0
                       try clear c36b1
                       try clear c37
                       try clear c37b0
                       try clear c37b1
                       try clear c38
                       try clear c38b0
                       try clear c38b1
                       try clear c40
                       try clear c41
                       try clear c41b0
                       try clear c41b1
                       try clear c44
                       try clear c47
                       try clear c47b0
                       try clear c49
                       try clear c50
                       try clear c50b0
                       try clear c51
                       try clear c51b0
                       try clear c52
                       try clear c52b0
                       try clear c53
                       try clear c58
                       try clear c58b0
                       try clear c58b1
                       try clear c59
                       try clear c59b0
                       try clear c59b1
                       try clear c61
                       try clear c62
                       try clear c62b0
                       try clear c65
                       try clear c71
                       try clear c71b0
                       try clear hcz13_0
                       try clear hcz13_1
                       try clear hcz13_2
                       try clear hcz13_3
                       try clear hcz13_4
                       try clear hcz14_0
                       try clear hcz14_1
                       try clear hcz17_0
                       try clear hcz17_1
                       try clear hcz17_2
                       try clear hcz17_3
                       try clear hcz17_4
                       try clear hcz18_0
                       try clear hcz18_1
                       try clear hcz30_0
                       try clear hcz30_1
                       try clear hcz30_2
                       try clear hcz30_3
                       try clear hcz30_4
                       try clear hcz31_0
                       try clear hcz31_1
                       try clear hcz33_0
                       try clear hcz33_1
                       try clear hcz33_2
                       try clear hcz33_3
                       try clear hcz33_4
                       try clear hcz34_0
                       try clear hcz34_1
                       try clear hcz45_0
                       try clear hcz45_1
                       try clear hcz66_0
                       try clear hcz66_1
                       try clear hcz66_2
                       try clear hcz66_3
                       try clear hcz66_4
                       try clear hcz67_0
                       try clear hcz67_1
                       try clear hfz13_0
                       try clear hfz13_1
                       try clear hfz13_2
                       try clear hfz13_3
                       try clear hfz13_4
                       try clear hfz14_0
                       try clear hfz14_1
                       try clear hfz17_0
                       try clear hfz17_1
                       try clear hfz17_2
                       try clear hfz17_3
                       try clear hfz17_4
                       try clear hfz18_0
                       try clear hfz18_1
                       try clear hfz30_0
                       try clear hfz30_1
                       try clear hfz30_2
                       try clear hfz30_3
                       try clear hfz30_4
                       try clear hfz31_0
                       try clear hfz31_1
                       try clear hfz33_0
                       try clear hfz33_1
                       try clear hfz33_2
                       try clear hfz33_3
                       try clear hfz33_4
                       try clear hfz34_0
                       try clear hfz34_1
                       try clear hfz45_0
                       try clear hfz45_1
                       try clear hfz66_0
                       try clear hfz66_1
                       try clear hfz66_2
                       try clear hfz66_3
                       try clear hfz66_4
                       try clear hfz67_0
                       try clear hfz67_1
                       try clear hx277_0
                       try clear hx278_0
                       try clear p2
                       try clear p27
                       try clear p277
                       try clear p278
                       try clear q2
                       try clear q27
                       try clear q277
                       try clear q278
                       obtain ⟨kq, x138_69, rfl, HA, HJ69, HO_10, HO_14, HO_18, HO_263000, BK261, BK262, HB⟩ := hcut
                       cases kq with
                       | zero => exact absurd HA.out (by simp [taquinlaw26_PuzzleSolves.j6])
                       | succ kj69 =>
                        have H := HA.out
                        clear HA
                        simp only [taquinlaw26_PuzzleSolves.j6] at H
                        by_cases c74 : x138_69 = true
                        ·subst c74
                         have H1 : (if 0 ≤ x20_6 then (if x20_6 < (t279.length : Int) then ((layout_Do.f x263000_5 x263001_5 ((rd_T51 t279 x20_6).f0) ((rd_T51 t279 x20_6).f1)).bind fun bt283 => ((layout_Rank.f bt283.1 bt283.2.1).bind fun t289 => (if t289 < 0 then (taquinlaw26_PuzzleSolves.j7 kj69 l1 a3 t263 t266 t270 t272 x17_5 t279 x19_6 x20_6 t289 true a0_0 a0_1 a0_2 l0_3 l0_4 x263000_5 x263001_5) else (taquinlaw26_PuzzleSolves.j7 kj69 l1 a3 t263 t266 t270 t272 x17_5 t279 x19_6 x20_6 t289 (decide (t289 ≥ (t266.length : Int))) a0_0 a0_1 a0_2 l0_3 l0_4 x263000_5 x263001_5)))) else (none)) else (none)) = some true := by rw [if_pos rfl] at H; exact H
                         clear H
                         have H := H1
                         clear H1
                         by_cases c75 : 0 ≤ x20_6
                         ·rw [if_pos c75] at H
                          have c75b0 : decide (0 ≤ x20_6) = true := decide_eq_true c75
                          clear c75
                          by_cases c76 : x20_6 < (t279.length : Int)
                          ·rw [if_pos c76] at H
                           have c76b0 : decide (x20_6 < (t279.length : Int)) = true := decide_eq_true c76
                           clear c76
                           replace H := Option.bind_eq_some_iff.mp H
                           obtain ⟨⟨t283, t286, t287⟩, A770, H⟩ := H
                           replace H : ((layout_Rank.f t283 t286).bind fun t289 => (if t289 < 0 then (taquinlaw26_PuzzleSolves.j7 kj69 l1 a3 t263 t266 t270 t272 x17_5 t279 x19_6 x20_6 t289 true a0_0 a0_1 a0_2 l0_3 l0_4 x263000_5 x263001_5) else (taquinlaw26_PuzzleSolves.j7 kj69 l1 a3 t263 t266 t270 t272 x17_5 t279 x19_6 x20_6 t289 (decide (t289 ≥ (t266.length : Int))) a0_0 a0_1 a0_2 l0_3 l0_4 x263000_5 x263001_5))) = some true := H
                           have A77 := Aside0.mk A770
                           clear A770
                           replace H := Option.bind_eq_some_iff.mp H
                           obtain ⟨t289, A780, H⟩ := H
                           replace H : (if t289 < 0 then (taquinlaw26_PuzzleSolves.j7 kj69 l1 a3 t263 t266 t270 t272 x17_5 t279 x19_6 x20_6 t289 true a0_0 a0_1 a0_2 l0_3 l0_4 x263000_5 x263001_5) else (taquinlaw26_PuzzleSolves.j7 kj69 l1 a3 t263 t266 t270 t272 x17_5 t279 x19_6 x20_6 t289 (decide (t289 ≥ (t266.length : Int))) a0_0 a0_1 a0_2 l0_3 l0_4 x263000_5 x263001_5)) = some true := H
                           have A78 := Aside0.mk A780
                           clear A780
                           have HC79 := Aside0.mk H
                           clear H
                           try go_wp2
                           have n0_ := Aside0.mk (Kd.R_drew HO_10.out)
                           have n1_ := Aside0.mk (Kd.R_drew HO_14.out)
                           have n2_ := Aside0.mk (Kd.R_drew HO_18.out)
                           have n3_ := Aside0.mk (Kd.V_drew HO_263000.out)
                           have n4_ := Aside0.mk (blk_drew BK261.out)
                           have n5_ := Aside0.mk (blk_drew BK262.out)
                           have n6_ := Aside0.mk (below_drew1 HB.out)
                           clear HO_10
                           clear HO_14
                           clear HO_18
                           clear HO_263000
                           clear BK261
                           clear BK262
                           clear HB
                           have HO_10 := n0_
                           have HO_14 := n1_
                           have HO_18 := n2_
                           have HO_263000 := n3_
                           have BK261 := n4_
                           have BK262 := n5_
                           have HB := n6_
                           clear n0_ n1_ n2_ n3_ n4_ n5_ n6_
                           obtain ⟨Ao81, co81, eo81⟩ := Kd.R_slice HO_18.out
                           (first | subst eo81 | (injection eo81 with f1_ f2_ f3_; have f4_ := f1_.symm; have f5_ := f3_.symm; clear f1_ f2_ f3_; subst f4_; subst f5_))
                           have p282 : 0 ≤ (x20_6 : Int) := of_decide_eq_true (by first | (with_reducible assumption) | assumption)
                           have q282 : x20_6 < (t279.length : Int) := of_decide_eq_true (by first | (with_reducible assumption) | assumption)
                           obtain ⟨ad282, e282, hx282_0, hx282_1⟩ := at_T51 (Kd.R_reads' HO_18.out).2.2 x20_6 p282 q282
                           cases e282
                           replace p282 := eq_true p282
                           replace q282 := eq_true q282
                           refine start_ (n := 12) (S := fun w' => w'.cell? ⟨gb262, 0, none⟩ = some (.slice Ao68 x263000_5.length co68) ∧ w'.cell? ⟨gb262, 1, none⟩ = some (.int .i64 x263001_5) ∧ w'.cell? (ad282.add ((x20_6).toNat * 2)) = some (.int .i64 ((rd_T51 t279 x20_6).f0)) ∧ w'.cell? ⟨(ad282.add ((x20_6).toNat * 2)).block, (ad282.add ((x20_6).toNat * 2)).off + 1, none⟩ = some (.int .i64 ((rd_T51 t279 x20_6).f1))) (ds := []) #[false, false, false, false, false, false, false, false, false, false, false, false] (by kernel_rfl) rfl rfl ⟨(blk_cell BK262.out 0).trans rfl, (blk_cell BK262.out 1).trans rfl, hx282_0, hx282_1⟩ (fun hHeld => ?_); refine with_tabW taquinlaw26_PuzzleSolves.tab26 taquinlaw26_PuzzleSolves.bits26 (fun HT_ HW_ => ?_)
                           generalize wc.drew = w80 at HO_10 HO_14 HO_18 HO_263000 BK261 BK262 HB hx282_0 hx282_1 hHeld ⊢
                           refine pure_ (i := 1) (N := some 143) (v := ?_) (a' := ?_) #[false, true, false, false, false, false, false, false, false, false, false, false] rfl rfl (any_of HT_.out (by kernel_rfl)) (fun _ _ _ h => h) (Or.inl ⟨by rfl, ?_⟩) ?_ ?_
                           rotate_left
                           ·intro w'
                            go_simp
                            with_reducible rfl
                           rotate_left
                           ·simp only [Act.put, List.setIfInBounds_toArray, List.set_cons_zero, List.set_cons_succ, i64_w, i32_w]
                            rfl
                           refine pure_ (i := 2) (N := some 144) (v := ?_) (a' := ?_) #[false, true, true, false, false, false, false, false, false, false, false, false] rfl rfl (any_of HT_.out (by kernel_rfl)) (fun _ _ _ h => h) (Or.inl ⟨by rfl, ?_⟩) ?_ ?_
                           rotate_left
                           ·intro w'
                            go_simp
                            with_reducible rfl
                           rotate_left
                           ·simp only [Act.put, List.setIfInBounds_toArray, List.set_cons_zero, List.set_cons_succ, i64_w, i32_w]
                            rfl
                           refine pure_ (i := 3) (N := some 145) (v := ?_) (a' := ?_) #[false, true, true, true, false, false, false, false, false, false, false, false] rfl rfl (any_of HT_.out (by kernel_rfl)) (fun _ _ _ h => h) (Or.inl ⟨by rfl, ?_⟩) ?_ ?_
                           rotate_left
                           ·intro w'
                            go_simp
                            with_reducible rfl
                           rotate_left
                           ·simp only [Act.put, List.setIfInBounds_toArray, List.set_cons_zero, List.set_cons_succ, i64_w, i32_w]
                            rfl
                           refine take_ (i := 0) (N := some 142) (v := ?_) (a' := ?_) #[true, true, true, true, false, false, false, false, false, false, false, false] rfl rfl (take_ofW HT_.out HW_.out (by kernel_rfl)) (fun _ _ _ h => h) (Or.inl ⟨by rfl, ?_⟩) hHeld ?_ ?_
                           rotate_left
                           ·rintro w' ⟨s0, s1, s2, s3⟩
                            go_simp
                            with_reducible rfl
                           rotate_left
                           ·simp only [Act.put, List.setIfInBounds_toArray, List.set_cons_zero, List.set_cons_succ, i64_w, i32_w]
                            rfl
                           refine take_ (i := 4) (N := some 146) (v := ?_) (a' := ?_) #[true, true, true, true, true, false, false, false, false, false, false, false] rfl rfl (take_ofW HT_.out HW_.out (by kernel_rfl)) (fun _ _ _ h => h) (Or.inl ⟨by rfl, ?_⟩) hHeld ?_ ?_
                           rotate_left
                           ·rintro w' ⟨s0, s1, s2, s3⟩
                            go_simp
                            with_reducible rfl
                           rotate_left
                           ·simp only [Act.put, List.setIfInBounds_toArray, List.set_cons_zero, List.set_cons_succ, i64_w, i32_w]
                            rfl
                           refine join_ (σ := Value × Nat) 2 #[true, true, true, true, true, true, true, true, true, true, false, false] (fun s_ => [(147, .tuple #[.agg #[s_.1, .int .i64 t286], .int .i64 t287]), (21, .pointer (some ⟨s_.2, 0, none⟩)), (141, .tuple #[.agg #[s_.1, .int .i64 t286], .int .i64 t287]), (148, .agg #[s_.1, .int .i64 t286]), (149, .int .i64 t287)]) (fun s_ w' => (w'.cell? ⟨gb262, 0, none⟩ = some (.slice Ao68 x263000_5.length co68) ∧ w'.cell? ⟨gb262, 1, none⟩ = some (.int .i64 x263001_5) ∧ w'.cell? (ad282.add ((x20_6).toNat * 2)) = some (.int .i64 ((rd_T51 t279 x20_6).f0)) ∧ w'.cell? ⟨(ad282.add ((x20_6).toNat * 2)).block, (ad282.add ((x20_6).toNat * 2)).off + 1, none⟩ = some (.int .i64 ((rd_T51 t279 x20_6).f1))) ∧ (Kd.R Kd.bool 4 w' w.heap.size (fun k_ => (w.heap.size ≤ k_)) s_.1 t283) ∧ (Kd.R (Kd.int .i64) 3 w' w.heap.size (fun k_ => (w.heap.size ≤ k_)) (.slice (some ad277) t266.length co57) t266) ∧ (Kd.R k51 51 w' w.heap.size (fun k_ => (w.heap.size ≤ k_) ∧ some k_ ≠ (.slice (some ad282) t279.length co81 : Value).ownBlock) (.slice Ao64 t272.length co64) t272) ∧ (Kd.R k51 51 w' w.heap.size (fun k_ => (w.heap.size ≤ k_) ∧ some k_ ≠ (.slice Ao64 t272.length co64 : Value).ownBlock) (.slice (some ad282) t279.length co81) t279) ∧ (Kd.V Kd.bool 4 w' w.heap.size (fun k_ => (P2_0_ k_ ∨ w.heap.size ≤ k_) ∧ some k_ ≠ (s_.1 : Value).ownBlock ∧ some k_ ≠ (.slice (some ad277) t266.length co57 : Value).ownBlock ∧ some k_ ≠ (.slice Ao64 t272.length co64 : Value).ownBlock ∧ some k_ ≠ (.slice (some ad282) t279.length co81 : Value).ownBlock ∧ k_ ≠ gb261 ∧ k_ ≠ gb262 ∧ k_ ≠ s_.2) (.slice Ao68 x263000_5.length co68) x263000_5) ∧ (w'.heap[gb261]? = some (.cells #[.int .i64 a0_0, .int .i64 a0_1, .int .i64 a0_2, .slice A0_3 l0_3.length c0_3, .slice A0_4 l0_4.length c0_4] 24 (0, 0))) ∧ (w'.heap[gb262]? = some (.cells #[.slice Ao68 x263000_5.length co68, .int .i64 x263001_5] 27 (0, 0))) ∧ (w'.heap[s_.2]? = some (.cells #[.slice none 0 0, .int .i64 0] 27 (0, 0))) ∧ (w.heap.size ≤ s_.2) ∧ (w.heap.size ≤ s_.2) ∧ (gb261 ≠ s_.2) ∧ (s_.2 ≠ gb261) ∧ (gb262 ≠ s_.2) ∧ (s_.2 ≠ gb262) ∧ (Below w.heap.size w w')) ?_ ?_
                           rotate_left
                           ·intro hCont
                            refine two_ (i := 5) (j := 9) (Ni := some 147) (Nj := some 21) #[true, true, true, true, true, true, false, false, false, false, false, false] #[true, true, true, true, true, false, false, false, false, true, false, false] rfl rfl rfl rfl (two_of HT_.out (by kernel_rfl)) (by decide) (by decide) (fun K hK => ?_) (fun K hK => ?_)
                            ·skip
                             refine goes_ Try.func30 (by kernel_rfl) rfl #[.agg #[.slice Ao68 x263000_5.length co68, .int .i64 x263001_5], .agg #[.int .i64 ((rd_T51 t279 x20_6).f0), .int .i64 ((rd_T51 t279 x20_6).f1)]] (by rfl) rfl rfl (by (try simp only [List.map_toArray, List.map_cons, List.map_nil]); first | done | rfl | (simp only [List.length_drop, List.length_take]; rfl)) ?_
                             with_reducible refine (layout_Do.calls _ _ x263000_5 x263001_5 ((rd_T51 t279 x20_6).f0) ((rd_T51 t279 x20_6).f1) t283 t286 t287 _ ?side1 ?side2 A77.out).mono ?_
                             (case side1 => repeat (first | exact (Kd.V_reads' HO_263000.out).2.2 | (with_reducible refine Kd.C_alloc ?_ _) | (with_reducible refine Kd.C_drewN ?_ _) | (with_reducible refine Kd.C_drew ?_)))
                             (case side2 => exact (Kd.V_reads' HO_263000.out).2.1)
                             rintro e w82 ⟨v284, rfl, ho0, hb⟩
                             have HS2_ := (hb.cell (World.block_lt_of_cell? _ _ (hHeld.2.2.1))).trans (hHeld.2.2.1)
                             have HS3_ := (hb.cell (World.block_lt_of_cell? _ _ (hHeld.2.2.2))).trans (hHeld.2.2.2)
                             refine ⟨_, rfl, ?_⟩
                             have n0_ := Aside0.mk (Kd.R_below (by (with_reducible repeat (first | apply Kd.R_alloc | apply Kd.R_drewN | apply Kd.R_drew)); exact HO_10.out) hb)
                             have n1_ := Aside0.mk (Kd.R_below (by (with_reducible repeat (first | apply Kd.R_alloc | apply Kd.R_drewN | apply Kd.R_drew)); exact HO_14.out) hb)
                             have n2_ := Aside0.mk (Kd.R_below (by (with_reducible repeat (first | apply Kd.R_alloc | apply Kd.R_drewN | apply Kd.R_drew)); exact HO_18.out) hb)
                             have n3_ := Aside0.mk (Kd.V_elder' (by (with_reducible repeat (first | apply Kd.V_alloc | apply Kd.V_drewN | apply Kd.V_drew)); exact HO_263000.out) (Kd.R_base ho0) hb)
                             have n4_ := Aside0.mk (Kd.R_lower (Kd.R_newM (M := fun k_ => (w.heap.size ≤ k_)) ho0 (below_size (by repeat (first | (with_reducible first | exact HB.out | apply below_alloc | apply pw_below_drewN | apply below_drew1 | refine below_set ?_ GE261.out | refine below_set ?_ GE262.out) | exact HB.out))) (fun k_ h_ => h_)) (below_size (by repeat (first | (with_reducible first | exact HB.out | apply below_alloc | apply pw_below_drewN | apply below_drew1 | refine below_set ?_ GE261.out | refine below_set ?_ GE262.out) | exact HB.out))))
                             have n5_ := Aside0.mk (blk_below (g := gb261) (o := .cells #[.int .i64 a0_0, .int .i64 a0_1, .int .i64 a0_2, .slice A0_3 l0_3.length c0_3, .slice A0_4 l0_4.length c0_4] 24 (0, 0)) (by (with_reducible repeat (first | refine blk_drewN ?_ _ | refine blk_drew ?_ | refine blk_alloc ?_ _)); exact BK261.out) hb)
                             have n6_ := Aside0.mk (blk_below (g := gb262) (o := .cells #[.slice Ao68 x263000_5.length co68, .int .i64 x263001_5] 27 (0, 0)) (by (with_reducible repeat (first | refine blk_drewN ?_ _ | refine blk_drew ?_ | refine blk_alloc ?_ _)); exact BK262.out) hb)
                             have n7_ := Aside0.mk (below_step (by repeat (first | (with_reducible first | exact HB.out | apply below_alloc | apply pw_below_drewN | apply below_drew1 | refine below_set ?_ GE261.out | refine below_set ?_ GE262.out) | exact HB.out)) hb)
                             clear HO_10
                             clear HO_14
                             clear HO_18
                             clear HO_263000
                             clear BK261
                             clear BK262
                             clear HB
                             have HO_10 := n0_
                             have HO_14 := n1_
                             have HO_18 := n2_
                             have HO_263000 := n3_
                             have HO285 := n4_
                             have BK261 := n5_
                             have BK262 := n6_
                             have HB := n7_
                             clear n0_ n1_ n2_ n3_ n4_ n5_ n6_ n7_
                             (try clear hb)
                             (try clear hb2)
                             (try clear hk)
                             (try clear hi)
                             (try clear ho0)
                             refine hK.out _ _ ⟨(blk_cell BK262.out 0).trans rfl, (blk_cell BK262.out 1).trans rfl, HS2_, HS3_⟩ (fun hHeld => ?_)
                             clear hK K
                             refine norm_ (a' := ?_) ?_ ?_
                             rotate_left
                             ·show Act.put _ (some 147) _ = _
                              simp only [Act.put, List.setIfInBounds_toArray, List.set_cons_zero, List.set_cons_succ, i64_w, i32_w]
                              rfl
                             refine pure_ (i := 6) (N := some 141) (v := ?_) (a' := ?_) #[true, true, true, true, true, true, true, false, false, false, false, false] rfl rfl (any_of HT_.out (by kernel_rfl)) (fun _ _ _ h => h) (Or.inl ⟨by rfl, ?_⟩) ?_ ?_
                             rotate_left
                             ·intro w'
                              go_simp
                              with_reducible rfl
                             rotate_left
                             ·simp only [Act.put, List.setIfInBounds_toArray, List.set_cons_zero, List.set_cons_succ, i64_w, i32_w]
                              rfl
                             refine pure_ (i := 7) (N := some 148) (v := ?_) (a' := ?_) #[true, true, true, true, true, true, true, true, false, false, false, false] rfl rfl (any_of HT_.out (by kernel_rfl)) (fun _ _ _ h => h) (Or.inl ⟨by rfl, ?_⟩) ?_ ?_
                             rotate_left
                             ·intro w'
                              go_simp
                              with_reducible rfl
                             rotate_left
                             ·simp only [Act.put, List.setIfInBounds_toArray, List.set_cons_zero, List.set_cons_succ, i64_w, i32_w]
                              rfl
                             refine pure_ (i := 8) (N := some 149) (v := ?_) (a' := ?_) #[true, true, true, true, true, true, true, true, true, false, false, false] rfl rfl (any_of HT_.out (by kernel_rfl)) (fun _ _ _ h => h) (Or.inl ⟨by rfl, ?_⟩) ?_ ?_
                             rotate_left
                             ·intro w'
                              go_simp
                              with_reducible rfl
                             rotate_left
                             ·simp only [Act.put, List.setIfInBounds_toArray, List.set_cons_zero, List.set_cons_succ, i64_w, i32_w]
                              rfl
                             refine one_ (i := 9) (N := some 21) #[true, true, true, true, true, true, true, true, true, true, false, false] rfl rfl (one_of HT_.out (by kernel_rfl)) (by decide) (fun K hK => ?_)
                             refine box_step ?hg (N := 21) ?hd (cs := #[.slice none 0 0, .int .i64 0]) (t := 27) ?hr ?_; (case hd => rfl); (case hg => rfl); (case hr => first | (go_simp; done) | (go_simp; rfl))
                             intro gb288 hg w83 hbox hb
                             have HS2_ := (hb.cell (World.block_lt_of_cell? _ _ (hHeld.2.2.1))).trans (hHeld.2.2.1)
                             have HS3_ := (hb.cell (World.block_lt_of_cell? _ _ (hHeld.2.2.2))).trans (hHeld.2.2.2)
                             have n0_ := Aside0.mk (Kd.R_below (by (with_reducible repeat (first | apply Kd.R_alloc | apply Kd.R_drewN | apply Kd.R_drew)); exact HO_10.out) hb)
                             have n1_ := Aside0.mk (Kd.R_below (by (with_reducible repeat (first | apply Kd.R_alloc | apply Kd.R_drewN | apply Kd.R_drew)); exact HO_14.out) hb)
                             have n2_ := Aside0.mk (Kd.R_below (by (with_reducible repeat (first | apply Kd.R_alloc | apply Kd.R_drewN | apply Kd.R_drew)); exact HO_18.out) hb)
                             have n3_ := Aside0.mk (Kd.V_below (Kd.V_elderB (by (with_reducible repeat (first | apply Kd.V_alloc | apply Kd.V_drewN | apply Kd.V_drew)); exact HO_263000.out) gb288 (Nat.le_of_eq hg.symm)) hb)
                             have n4_ := Aside0.mk (Kd.R_below (by (with_reducible repeat (first | apply Kd.R_alloc | apply Kd.R_drewN | apply Kd.R_drew)); exact HO285.out) hb)
                             have n5_ := Aside0.mk (blk_below (g := gb261) (o := .cells #[.int .i64 a0_0, .int .i64 a0_1, .int .i64 a0_2, .slice A0_3 l0_3.length c0_3, .slice A0_4 l0_4.length c0_4] 24 (0, 0)) (by (with_reducible repeat (first | refine blk_drewN ?_ _ | refine blk_drew ?_ | refine blk_alloc ?_ _)); exact BK261.out) hb)
                             have n6_ := Aside0.mk (blk_below (g := gb262) (o := .cells #[.slice Ao68 x263000_5.length co68, .int .i64 x263001_5] 27 (0, 0)) (by (with_reducible repeat (first | refine blk_drewN ?_ _ | refine blk_drew ?_ | refine blk_alloc ?_ _)); exact BK262.out) hb)
                             have n7_ := Aside0.mk (below_step (by repeat (first | (with_reducible first | exact HB.out | apply below_alloc | apply pw_below_drewN | apply below_drew1 | refine below_set ?_ GE261.out | refine below_set ?_ GE262.out) | exact HB.out)) hb)
                             have n8_ := Aside0.mk (hbox)
                             have n9_ := Aside0.mk ((by rw [hg]; exact (below_size (by repeat (first | (with_reducible first | exact HB.out | apply below_alloc | apply pw_below_drewN | apply below_drew1 | refine below_set ?_ GE261.out | refine below_set ?_ GE262.out) | exact HB.out))) : w.heap.size ≤ gb288))
                             have n10_ := Aside0.mk ((by rw [hg]; exact (below_size (by repeat (first | (with_reducible first | exact HB.out | apply below_alloc | apply pw_below_drewN | apply below_drew1 | refine below_set ?_ GE261.out | refine below_set ?_ GE262.out) | exact HB.out))) : w.heap.size ≤ gb288))
                             have n11_ := Aside0.mk ((by rw [hg]; exact Nat.ne_of_lt (blk_lt (g := gb261) (o := .cells #[.int .i64 a0_0, .int .i64 a0_1, .int .i64 a0_2, .slice A0_3 l0_3.length c0_3, .slice A0_4 l0_4.length c0_4] 24 (0, 0)) (by (with_reducible repeat (first | refine blk_drewN ?_ _ | refine blk_drew ?_ | refine blk_alloc ?_ _)); exact BK261.out)) : gb261 ≠ gb288))
                             have n12_ := Aside0.mk ((by rw [hg]; exact Nat.ne_of_gt (blk_lt (g := gb261) (o := .cells #[.int .i64 a0_0, .int .i64 a0_1, .int .i64 a0_2, .slice A0_3 l0_3.length c0_3, .slice A0_4 l0_4.length c0_4] 24 (0, 0)) (by (with_reducible repeat (first | refine blk_drewN ?_ _ | refine blk_drew ?_ | refine blk_alloc ?_ _)); exact BK261.out)) : gb288 ≠ gb261))
                             have n13_ := Aside0.mk ((by rw [hg]; exact Nat.ne_of_lt (blk_lt (g := gb262) (o := .cells #[.slice Ao68 x263000_5.length co68, .int .i64 x263001_5] 27 (0, 0)) (by (with_reducible repeat (first | refine blk_drewN ?_ _ | refine blk_drew ?_ | refine blk_alloc ?_ _)); exact BK262.out)) : gb262 ≠ gb288))
                             have n14_ := Aside0.mk ((by rw [hg]; exact Nat.ne_of_gt (blk_lt (g := gb262) (o := .cells #[.slice Ao68 x263000_5.length co68, .int .i64 x263001_5] 27 (0, 0)) (by (with_reducible repeat (first | refine blk_drewN ?_ _ | refine blk_drew ?_ | refine blk_alloc ?_ _)); exact BK262.out)) : gb288 ≠ gb262))
                             clear HO_10
                             clear HO_14
                             clear HO_18
                             clear HO_263000
                             clear HO285
                             clear BK261
                             clear BK262
                             clear HB
                             have HO_10 := n0_
                             have HO_14 := n1_
                             have HO_18 := n2_
                             have HO_263000 := n3_
                             have HO285 := n4_
                             have BK261 := n5_
                             have BK262 := n6_
                             have HB := n7_
                             have BK288 := n8_
                             have GW288 := n9_
                             have GE288 := n10_
                             have NB261_288 := n11_
                             have NB288_261 := n12_
                             have NB262_288 := n13_
                             have NB288_262 := n14_
                             clear n0_ n1_ n2_ n3_ n4_ n5_ n6_ n7_ n8_ n9_ n10_ n11_ n12_ n13_ n14_
                             clear hb hbox hg
                             refine hK.out _ _ ⟨(blk_cell BK262.out 0).trans rfl, (blk_cell BK262.out 1).trans rfl, HS2_, HS3_⟩ (fun hHeld => ?_)
                             clear hK K
                             refine norm_ (a' := ?_) ?_ ?_
                             rotate_left
                             ·show Act.put _ (some 21) _ = _
                              simp only [Act.put, List.setIfInBounds_toArray, List.set_cons_zero, List.set_cons_succ, i64_w, i32_w]
                              rfl
                             exact norm_ (by simp only [putAll, Act.put, List.setIfInBounds_toArray, List.set_cons_zero, List.set_cons_succ]) (hCont (v284, gb288) _ ⟨hHeld, (by (with_reducible repeat (first | apply Kd.R_alloc | apply Kd.R_drewN | apply Kd.R_drew)); exact Kd.R_mono HO285.out (fun _ hk => hk.1)), (by (with_reducible repeat (first | apply Kd.R_alloc | apply Kd.R_drewN | apply Kd.R_drew)); exact HO_10.out), (by (with_reducible repeat (first | apply Kd.R_alloc | apply Kd.R_drewN | apply Kd.R_drew)); exact HO_14.out), (by (with_reducible repeat (first | apply Kd.R_alloc | apply Kd.R_drewN | apply Kd.R_drew)); exact HO_18.out), (by (with_reducible repeat (first | apply Kd.V_alloc | apply Kd.V_drewN | apply Kd.V_drew)); exact Kd.V_mono HO_263000.out (fun _ hk => ⟨hk.1.1.1, ⟨hk.1.2, ⟨hk.1.1.2.1, ⟨hk.1.1.2.2.1, ⟨hk.1.1.2.2.2.1, ⟨hk.1.1.2.2.2.2.1, ⟨hk.1.1.2.2.2.2.2, hk.2⟩⟩⟩⟩⟩⟩⟩)), (by (with_reducible repeat (first | refine blk_drewN ?_ _ | refine blk_drew ?_ | refine blk_alloc ?_ _)); exact BK261.out), (by (with_reducible repeat (first | refine blk_drewN ?_ _ | refine blk_drew ?_ | refine blk_alloc ?_ _)); exact BK262.out), (by (with_reducible repeat (first | refine blk_drewN ?_ _ | refine blk_drew ?_ | refine blk_alloc ?_ _)); exact BK288.out), GW288.out, GE288.out, NB261_288.out, NB288_261.out, NB262_288.out, NB288_262.out, (by repeat (first | (with_reducible first | exact HB.out | apply below_alloc | apply pw_below_drewN | apply below_drew1 | refine below_set ?_ GE261.out | refine below_set ?_ GE262.out | refine below_set ?_ GE288.out) | exact HB.out))⟩)
                            ·skip
                             refine box_step ?hg (N := 21) ?hd (cs := #[.slice none 0 0, .int .i64 0]) (t := 27) ?hr ?_; (case hd => rfl); (case hg => rfl); (case hr => first | (go_simp; done) | (go_simp; rfl))
                             intro gb288 hg w82 hbox hb
                             have HS2_ := (hb.cell (World.block_lt_of_cell? _ _ (hHeld.2.2.1))).trans (hHeld.2.2.1)
                             have HS3_ := (hb.cell (World.block_lt_of_cell? _ _ (hHeld.2.2.2))).trans (hHeld.2.2.2)
                             have n0_ := Aside0.mk (Kd.R_below (by (with_reducible repeat (first | apply Kd.R_alloc | apply Kd.R_drewN | apply Kd.R_drew)); exact HO_10.out) hb)
                             have n1_ := Aside0.mk (Kd.R_below (by (with_reducible repeat (first | apply Kd.R_alloc | apply Kd.R_drewN | apply Kd.R_drew)); exact HO_14.out) hb)
                             have n2_ := Aside0.mk (Kd.R_below (by (with_reducible repeat (first | apply Kd.R_alloc | apply Kd.R_drewN | apply Kd.R_drew)); exact HO_18.out) hb)
                             have n3_ := Aside0.mk (Kd.V_below (Kd.V_elderB (by (with_reducible repeat (first | apply Kd.V_alloc | apply Kd.V_drewN | apply Kd.V_drew)); exact HO_263000.out) gb288 (Nat.le_of_eq hg.symm)) hb)
                             have n4_ := Aside0.mk (blk_below (g := gb261) (o := .cells #[.int .i64 a0_0, .int .i64 a0_1, .int .i64 a0_2, .slice A0_3 l0_3.length c0_3, .slice A0_4 l0_4.length c0_4] 24 (0, 0)) (by (with_reducible repeat (first | refine blk_drewN ?_ _ | refine blk_drew ?_ | refine blk_alloc ?_ _)); exact BK261.out) hb)
                             have n5_ := Aside0.mk (blk_below (g := gb262) (o := .cells #[.slice Ao68 x263000_5.length co68, .int .i64 x263001_5] 27 (0, 0)) (by (with_reducible repeat (first | refine blk_drewN ?_ _ | refine blk_drew ?_ | refine blk_alloc ?_ _)); exact BK262.out) hb)
                             have n6_ := Aside0.mk (below_step (by repeat (first | (with_reducible first | exact HB.out | apply below_alloc | apply pw_below_drewN | apply below_drew1 | refine below_set ?_ GE261.out | refine below_set ?_ GE262.out) | exact HB.out)) hb)
                             have n7_ := Aside0.mk (hbox)
                             have n8_ := Aside0.mk ((by rw [hg]; exact (below_size (by repeat (first | (with_reducible first | exact HB.out | apply below_alloc | apply pw_below_drewN | apply below_drew1 | refine below_set ?_ GE261.out | refine below_set ?_ GE262.out) | exact HB.out))) : w.heap.size ≤ gb288))
                             have n9_ := Aside0.mk ((by rw [hg]; exact (below_size (by repeat (first | (with_reducible first | exact HB.out | apply below_alloc | apply pw_below_drewN | apply below_drew1 | refine below_set ?_ GE261.out | refine below_set ?_ GE262.out) | exact HB.out))) : w.heap.size ≤ gb288))
                             have n10_ := Aside0.mk ((by rw [hg]; exact Nat.ne_of_lt (blk_lt (g := gb261) (o := .cells #[.int .i64 a0_0, .int .i64 a0_1, .int .i64 a0_2, .slice A0_3 l0_3.length c0_3, .slice A0_4 l0_4.length c0_4] 24 (0, 0)) (by (with_reducible repeat (first | refine blk_drewN ?_ _ | refine blk_drew ?_ | refine blk_alloc ?_ _)); exact BK261.out)) : gb261 ≠ gb288))
                             have n11_ := Aside0.mk ((by rw [hg]; exact Nat.ne_of_gt (blk_lt (g := gb261) (o := .cells #[.int .i64 a0_0, .int .i64 a0_1, .int .i64 a0_2, .slice A0_3 l0_3.length c0_3, .slice A0_4 l0_4.length c0_4] 24 (0, 0)) (by (with_reducible repeat (first | refine blk_drewN ?_ _ | refine blk_drew ?_ | refine blk_alloc ?_ _)); exact BK261.out)) : gb288 ≠ gb261))
                             have n12_ := Aside0.mk ((by rw [hg]; exact Nat.ne_of_lt (blk_lt (g := gb262) (o := .cells #[.slice Ao68 x263000_5.length co68, .int .i64 x263001_5] 27 (0, 0)) (by (with_reducible repeat (first | refine blk_drewN ?_ _ | refine blk_drew ?_ | refine blk_alloc ?_ _)); exact BK262.out)) : gb262 ≠ gb288))
                             have n13_ := Aside0.mk ((by rw [hg]; exact Nat.ne_of_gt (blk_lt (g := gb262) (o := .cells #[.slice Ao68 x263000_5.length co68, .int .i64 x263001_5] 27 (0, 0)) (by (with_reducible repeat (first | refine blk_drewN ?_ _ | refine blk_drew ?_ | refine blk_alloc ?_ _)); exact BK262.out)) : gb288 ≠ gb262))
                             clear HO_10
                             clear HO_14
                             clear HO_18
                             clear HO_263000
                             clear BK261
                             clear BK262
                             clear HB
                             have HO_10 := n0_
                             have HO_14 := n1_
                             have HO_18 := n2_
                             have HO_263000 := n3_
                             have BK261 := n4_
                             have BK262 := n5_
                             have HB := n6_
                             have BK288 := n7_
                             have GW288 := n8_
                             have GE288 := n9_
                             have NB261_288 := n10_
                             have NB288_261 := n11_
                             have NB262_288 := n12_
                             have NB288_262 := n13_
                             clear n0_ n1_ n2_ n3_ n4_ n5_ n6_ n7_ n8_ n9_ n10_ n11_ n12_ n13_
                             clear hb hbox hg
                             refine hK.out _ _ ⟨(blk_cell BK262.out 0).trans rfl, (blk_cell BK262.out 1).trans rfl, HS2_, HS3_⟩ (fun hHeld => ?_)
                             clear hK K
                             refine norm_ (a' := ?_) ?_ ?_
                             rotate_left
                             ·show Act.put _ (some 21) _ = _
                              simp only [Act.put, List.setIfInBounds_toArray, List.set_cons_zero, List.set_cons_succ, i64_w, i32_w]
                              rfl
                             refine one_ (i := 5) (N := some 147) #[true, true, true, true, true, true, false, false, false, true, false, false] rfl rfl (one_of HT_.out (by kernel_rfl)) (by decide) (fun K hK => ?_)
                             refine goes_ Try.func30 (by kernel_rfl) rfl #[.agg #[.slice Ao68 x263000_5.length co68, .int .i64 x263001_5], .agg #[.int .i64 ((rd_T51 t279 x20_6).f0), .int .i64 ((rd_T51 t279 x20_6).f1)]] (by rfl) rfl rfl (by (try simp only [List.map_toArray, List.map_cons, List.map_nil]); first | done | rfl | (simp only [List.length_drop, List.length_take]; rfl)) ?_
                             with_reducible refine (layout_Do.calls _ _ x263000_5 x263001_5 ((rd_T51 t279 x20_6).f0) ((rd_T51 t279 x20_6).f1) t283 t286 t287 _ ?side1 ?side2 A77.out).mono ?_
                             (case side1 => repeat (first | exact (Kd.V_reads' HO_263000.out).2.2 | (with_reducible refine Kd.C_alloc ?_ _) | (with_reducible refine Kd.C_drewN ?_ _) | (with_reducible refine Kd.C_drew ?_)))
                             (case side2 => exact (Kd.V_reads' HO_263000.out).2.1)
                             rintro e w83 ⟨v284, rfl, ho0, hb⟩
                             have HS2_ := (hb.cell (World.block_lt_of_cell? _ _ (hHeld.2.2.1))).trans (hHeld.2.2.1)
                             have HS3_ := (hb.cell (World.block_lt_of_cell? _ _ (hHeld.2.2.2))).trans (hHeld.2.2.2)
                             refine ⟨_, rfl, ?_⟩
                             have n0_ := Aside0.mk (Kd.R_below (by (with_reducible repeat (first | apply Kd.R_alloc | apply Kd.R_drewN | apply Kd.R_drew)); exact HO_10.out) hb)
                             have n1_ := Aside0.mk (Kd.R_below (by (with_reducible repeat (first | apply Kd.R_alloc | apply Kd.R_drewN | apply Kd.R_drew)); exact HO_14.out) hb)
                             have n2_ := Aside0.mk (Kd.R_below (by (with_reducible repeat (first | apply Kd.R_alloc | apply Kd.R_drewN | apply Kd.R_drew)); exact HO_18.out) hb)
                             have n3_ := Aside0.mk (Kd.V_elder' (by (with_reducible repeat (first | apply Kd.V_alloc | apply Kd.V_drewN | apply Kd.V_drew)); exact HO_263000.out) (Kd.R_base ho0) hb)
                             have n4_ := Aside0.mk (Kd.R_lower (Kd.R_newM (M := fun k_ => (w.heap.size ≤ k_)) ho0 (below_size (by repeat (first | (with_reducible first | exact HB.out | apply below_alloc | apply pw_below_drewN | apply below_drew1 | refine below_set ?_ GE261.out | refine below_set ?_ GE262.out | refine below_set ?_ GE288.out) | exact HB.out))) (fun k_ h_ => h_)) (below_size (by repeat (first | (with_reducible first | exact HB.out | apply below_alloc | apply pw_below_drewN | apply below_drew1 | refine below_set ?_ GE261.out | refine below_set ?_ GE262.out | refine below_set ?_ GE288.out) | exact HB.out))))
                             have n5_ := Aside0.mk (blk_below (g := gb261) (o := .cells #[.int .i64 a0_0, .int .i64 a0_1, .int .i64 a0_2, .slice A0_3 l0_3.length c0_3, .slice A0_4 l0_4.length c0_4] 24 (0, 0)) (by (with_reducible repeat (first | refine blk_drewN ?_ _ | refine blk_drew ?_ | refine blk_alloc ?_ _)); exact BK261.out) hb)
                             have n6_ := Aside0.mk (blk_below (g := gb262) (o := .cells #[.slice Ao68 x263000_5.length co68, .int .i64 x263001_5] 27 (0, 0)) (by (with_reducible repeat (first | refine blk_drewN ?_ _ | refine blk_drew ?_ | refine blk_alloc ?_ _)); exact BK262.out) hb)
                             have n7_ := Aside0.mk (blk_below (g := gb288) (o := .cells #[.slice none 0 0, .int .i64 0] 27 (0, 0)) (by (with_reducible repeat (first | refine blk_drewN ?_ _ | refine blk_drew ?_ | refine blk_alloc ?_ _)); exact BK288.out) hb)
                             have n8_ := Aside0.mk (below_step (by repeat (first | (with_reducible first | exact HB.out | apply below_alloc | apply pw_below_drewN | apply below_drew1 | refine below_set ?_ GE261.out | refine below_set ?_ GE262.out | refine below_set ?_ GE288.out) | exact HB.out)) hb)
                             clear HO_10
                             clear HO_14
                             clear HO_18
                             clear HO_263000
                             clear BK261
                             clear BK262
                             clear BK288
                             clear HB
                             have HO_10 := n0_
                             have HO_14 := n1_
                             have HO_18 := n2_
                             have HO_263000 := n3_
                             have HO285 := n4_
                             have BK261 := n5_
                             have BK262 := n6_
                             have BK288 := n7_
                             have HB := n8_
                             clear n0_ n1_ n2_ n3_ n4_ n5_ n6_ n7_ n8_
                             (try clear hb)
                             (try clear hb2)
                             (try clear hk)
                             (try clear hi)
                             (try clear ho0)
                             refine hK.out _ _ ⟨(blk_cell BK262.out 0).trans rfl, (blk_cell BK262.out 1).trans rfl, HS2_, HS3_⟩ (fun hHeld => ?_)
                             clear hK K
                             refine norm_ (a' := ?_) ?_ ?_
                             rotate_left
                             ·show Act.put _ (some 147) _ = _
                              simp only [Act.put, List.setIfInBounds_toArray, List.set_cons_zero, List.set_cons_succ, i64_w, i32_w]
                              rfl
                             refine pure_ (i := 6) (N := some 141) (v := ?_) (a' := ?_) #[true, true, true, true, true, true, true, false, false, true, false, false] rfl rfl (any_of HT_.out (by kernel_rfl)) (fun _ _ _ h => h) (Or.inl ⟨by rfl, ?_⟩) ?_ ?_
                             rotate_left
                             ·intro w'
                              go_simp
                              with_reducible rfl
                             rotate_left
                             ·simp only [Act.put, List.setIfInBounds_toArray, List.set_cons_zero, List.set_cons_succ, i64_w, i32_w]
                              rfl
                             refine pure_ (i := 7) (N := some 148) (v := ?_) (a' := ?_) #[true, true, true, true, true, true, true, true, false, true, false, false] rfl rfl (any_of HT_.out (by kernel_rfl)) (fun _ _ _ h => h) (Or.inl ⟨by rfl, ?_⟩) ?_ ?_
                             rotate_left
                             ·intro w'
                              go_simp
                              with_reducible rfl
                             rotate_left
                             ·simp only [Act.put, List.setIfInBounds_toArray, List.set_cons_zero, List.set_cons_succ, i64_w, i32_w]
                              rfl
                             refine pure_ (i := 8) (N := some 149) (v := ?_) (a' := ?_) #[true, true, true, true, true, true, true, true, true, true, false, false] rfl rfl (any_of HT_.out (by kernel_rfl)) (fun _ _ _ h => h) (Or.inl ⟨by rfl, ?_⟩) ?_ ?_
                             rotate_left
                             ·intro w'
                              go_simp
                              with_reducible rfl
                             rotate_left
                             ·simp only [Act.put, List.setIfInBounds_toArray, List.set_cons_zero, List.set_cons_succ, i64_w, i32_w]
                              rfl
                             exact norm_ (by simp only [putAll, Act.put, List.setIfInBounds_toArray, List.set_cons_zero, List.set_cons_succ]) (hCont (v284, gb288) _ ⟨hHeld, (by (with_reducible repeat (first | apply Kd.R_alloc | apply Kd.R_drewN | apply Kd.R_drew)); exact Kd.R_mono HO285.out (fun _ hk => hk.1)), (by (with_reducible repeat (first | apply Kd.R_alloc | apply Kd.R_drewN | apply Kd.R_drew)); exact HO_10.out), (by (with_reducible repeat (first | apply Kd.R_alloc | apply Kd.R_drewN | apply Kd.R_drew)); exact HO_14.out), (by (with_reducible repeat (first | apply Kd.R_alloc | apply Kd.R_drewN | apply Kd.R_drew)); exact HO_18.out), (by (with_reducible repeat (first | apply Kd.V_alloc | apply Kd.V_drewN | apply Kd.V_drew)); exact Kd.V_mono HO_263000.out (fun _ hk => ⟨hk.1.1.1, ⟨hk.2, ⟨hk.1.1.2.1, ⟨hk.1.1.2.2.1, ⟨hk.1.1.2.2.2.1, ⟨hk.1.1.2.2.2.2.1, ⟨hk.1.1.2.2.2.2.2, hk.1.2⟩⟩⟩⟩⟩⟩⟩)), (by (with_reducible repeat (first | refine blk_drewN ?_ _ | refine blk_drew ?_ | refine blk_alloc ?_ _)); exact BK261.out), (by (with_reducible repeat (first | refine blk_drewN ?_ _ | refine blk_drew ?_ | refine blk_alloc ?_ _)); exact BK262.out), (by (with_reducible repeat (first | refine blk_drewN ?_ _ | refine blk_drew ?_ | refine blk_alloc ?_ _)); exact BK288.out), GW288.out, GE288.out, NB261_288.out, NB288_261.out, NB262_288.out, NB288_262.out, (by repeat (first | (with_reducible first | exact HB.out | apply below_alloc | apply pw_below_drewN | apply below_drew1 | refine below_set ?_ GE261.out | refine below_set ?_ GE262.out | refine below_set ?_ GE288.out) | exact HB.out))⟩)
                           rintro ⟨v284, gb288⟩ w84 ⟨hS_, h0_, h1_, h2_, h3_, h4_, h5_, h6_, h7_, h8_, h9_, h10_, h11_, h12_, h13_, h14_⟩
                           have n0_ : Aside0 (Kd.R Kd.bool 4 w84 w.heap.size (fun k_ => (w.heap.size ≤ k_)) v284 t283) := ⟨h0_⟩
                           have n1_ : Aside0 (Kd.R (Kd.int .i64) 3 w84 w.heap.size (fun k_ => (w.heap.size ≤ k_)) (.slice (some ad277) t266.length co57) t266) := ⟨h1_⟩
                           have n2_ : Aside0 (Kd.R k51 51 w84 w.heap.size (fun k_ => (w.heap.size ≤ k_) ∧ some k_ ≠ (.slice (some ad282) t279.length co81 : Value).ownBlock) (.slice Ao64 t272.length co64) t272) := ⟨h2_⟩
                           have n3_ : Aside0 (Kd.R k51 51 w84 w.heap.size (fun k_ => (w.heap.size ≤ k_) ∧ some k_ ≠ (.slice Ao64 t272.length co64 : Value).ownBlock) (.slice (some ad282) t279.length co81) t279) := ⟨h3_⟩
                           have n4_ : Aside0 (Kd.V Kd.bool 4 w84 w.heap.size (fun k_ => (P2_0_ k_ ∨ w.heap.size ≤ k_) ∧ some k_ ≠ (v284 : Value).ownBlock ∧ some k_ ≠ (.slice (some ad277) t266.length co57 : Value).ownBlock ∧ some k_ ≠ (.slice Ao64 t272.length co64 : Value).ownBlock ∧ some k_ ≠ (.slice (some ad282) t279.length co81 : Value).ownBlock ∧ k_ ≠ gb261 ∧ k_ ≠ gb262 ∧ k_ ≠ gb288) (.slice Ao68 x263000_5.length co68) x263000_5) := ⟨h4_⟩
                           have n5_ : Aside0 (w84.heap[gb261]? = some (.cells #[.int .i64 a0_0, .int .i64 a0_1, .int .i64 a0_2, .slice A0_3 l0_3.length c0_3, .slice A0_4 l0_4.length c0_4] 24 (0, 0))) := ⟨h5_⟩
                           have n6_ : Aside0 (w84.heap[gb262]? = some (.cells #[.slice Ao68 x263000_5.length co68, .int .i64 x263001_5] 27 (0, 0))) := ⟨h6_⟩
                           have n7_ : Aside0 (w84.heap[gb288]? = some (.cells #[.slice none 0 0, .int .i64 0] 27 (0, 0))) := ⟨h7_⟩
                           have n8_ : Aside0 (w.heap.size ≤ gb288) := ⟨h8_⟩
                           have n9_ : Aside0 (w.heap.size ≤ gb288) := ⟨h9_⟩
                           have n10_ : Aside0 (gb261 ≠ gb288) := ⟨h10_⟩
                           have n11_ : Aside0 (gb288 ≠ gb261) := ⟨h11_⟩
                           have n12_ : Aside0 (gb262 ≠ gb288) := ⟨h12_⟩
                           have n13_ : Aside0 (gb288 ≠ gb262) := ⟨h13_⟩
                           have n14_ : Aside0 (Below w.heap.size w w84) := ⟨h14_⟩
                           clear HO_10
                           clear HO_14
                           clear HO_18
                           clear HO_263000
                           clear BK261
                           clear BK262
                           clear HB
                           clear h0_ h1_ h2_ h3_ h4_ h5_ h6_ h7_ h8_ h9_ h10_ h11_ h12_ h13_ h14_
                           have HO285 := n0_
                           have HO_10 := n1_
                           have HO_14 := n2_
                           have HO_18 := n3_
                           have HO_263000 := n4_
                           have BK261 := n5_
                           have BK262 := n6_
                           have BK288 := n7_
                           have GW288 := n8_
                           have GE288 := n9_
                           have NB261_288 := n10_
                           have NB288_261 := n11_
                           have NB262_288 := n12_
                           have NB288_262 := n13_
                           have HB := n14_
                           clear n0_ n1_ n2_ n3_ n4_ n5_ n6_ n7_ n8_ n9_ n10_ n11_ n12_ n13_ n14_
                           have hHeld : w84.cell? ⟨gb262, 0, none⟩ = some (.slice Ao68 x263000_5.length co68) ∧ w84.cell? ⟨gb262, 1, none⟩ = some (.int .i64 x263001_5) ∧ w84.cell? (ad282.add ((x20_6).toNat * 2)) = some (.int .i64 ((rd_T51 t279 x20_6).f0)) ∧ w84.cell? ⟨(ad282.add ((x20_6).toNat * 2)).block, (ad282.add ((x20_6).toNat * 2)).off + 1, none⟩ = some (.int .i64 ((rd_T51 t279 x20_6).f1)) := hS_
                           obtain ⟨Ao85, co85, eo85⟩ := Kd.R_slice HO285.out
                           (first | subst eo85 | (injection eo85 with f1_ f2_ f3_; have f4_ := f1_.symm; have f5_ := f3_.symm; clear f1_ f2_ f3_; subst f4_; subst f5_))
                           refine norm_ (a' := ?_) ?_ ?_
                           rotate_left
                           ·simp only [putAll, Act.put, List.setIfInBounds_toArray, List.set_cons_zero, List.set_cons_succ]
                            rfl
                           refine one_ (i := 10) (N := none) #[true, true, true, true, true, true, true, true, true, true, true, false] rfl rfl (one_of HT_.out (by kernel_rfl)) (by decide) (fun K hK => ?_)
                           have hs86 : w84.cell? ⟨gb288, 0, none⟩ = some (.slice none 0 0) := (blk_cell BK288.out 0).trans rfl
                           have hfs86 := blk_frozen BK288.out 0
                           have hns86_0 := NB261_288.out
                           have hns86_1 := NB262_288.out
                           have hms86_0 := NB288_261.out
                           have hms86_1 := NB288_262.out
                           have hs87 : w84.cell? ⟨gb288, 1, none⟩ = some (.int .i64 0) := (blk_cell BK288.out 1).trans rfl
                           have hfs87 := blk_frozen BK288.out 1
                           have hns87_0 := NB261_288.out
                           have hns87_1 := NB262_288.out
                           have hms87_0 := NB288_261.out
                           have hms87_1 := NB288_262.out
                           refine skip_ (w1 := ?_) (by rfl) rfl ?_ ?_
                           rotate_left
                           ·go_simp
                            rfl
                           refine hK.out _ _ ⟨((cell_far (p := ⟨gb288, _, none⟩) NB262_288.out _).trans (((cell_far (p := ⟨gb288, _, none⟩) NB262_288.out _).trans (hHeld.1)))), ((cell_far (p := ⟨gb288, _, none⟩) NB262_288.out _).trans (((cell_far (p := ⟨gb288, _, none⟩) NB262_288.out _).trans (hHeld.2.1)))), ((cell_far (p := ⟨gb288, _, none⟩) (by first | exact Kd.own_blk (Kd.R_ne HO_18.out BK288.out (by decide)) | (rw [add_block]; exact Kd.own_blk (Kd.R_ne HO_18.out BK288.out (by decide))) | (show (Addr.add _ _).block ≠ _; rw [add_block]; exact Kd.own_blk (Kd.R_ne HO_18.out BK288.out (by decide))) | (dsimp only; exact Kd.own_blk (Kd.R_ne HO_18.out BK288.out (by decide)))) _).trans (((cell_far (p := ⟨gb288, _, none⟩) (by first | exact Kd.own_blk (Kd.R_ne HO_18.out BK288.out (by decide)) | (rw [add_block]; exact Kd.own_blk (Kd.R_ne HO_18.out BK288.out (by decide))) | (show (Addr.add _ _).block ≠ _; rw [add_block]; exact Kd.own_blk (Kd.R_ne HO_18.out BK288.out (by decide))) | (dsimp only; exact Kd.own_blk (Kd.R_ne HO_18.out BK288.out (by decide)))) _).trans (hHeld.2.2.1)))), ((cell_far (p := ⟨gb288, _, none⟩) (by first | exact Kd.own_blk (Kd.R_ne HO_18.out BK288.out (by decide)) | (rw [add_block]; exact Kd.own_blk (Kd.R_ne HO_18.out BK288.out (by decide))) | (show (Addr.add _ _).block ≠ _; rw [add_block]; exact Kd.own_blk (Kd.R_ne HO_18.out BK288.out (by decide))) | (dsimp only; exact Kd.own_blk (Kd.R_ne HO_18.out BK288.out (by decide)))) _).trans (((cell_far (p := ⟨gb288, _, none⟩) (by first | exact Kd.own_blk (Kd.R_ne HO_18.out BK288.out (by decide)) | (rw [add_block]; exact Kd.own_blk (Kd.R_ne HO_18.out BK288.out (by decide))) | (show (Addr.add _ _).block ≠ _; rw [add_block]; exact Kd.own_blk (Kd.R_ne HO_18.out BK288.out (by decide))) | (dsimp only; exact Kd.own_blk (Kd.R_ne HO_18.out BK288.out (by decide)))) _).trans (hHeld.2.2.2))))⟩ (fun hHeld => ?_)
                           clear hK K
                           refine pure_ (i := 11) (N := some 22) (v := ?_) (a' := ?_) #[true, true, true, true, true, true, true, true, true, true, true, true] rfl rfl (any_of HT_.out (by kernel_rfl)) (fun _ _ _ h => h) (Or.inl ⟨by rfl, ?_⟩) ?_ ?_
                           rotate_left
                           ·intro w'
                            go_simp
                            with_reducible rfl
                           rotate_left
                           ·simp only [Act.put, List.setIfInBounds_toArray, List.set_cons_zero, List.set_cons_succ, i64_w, i32_w]
                            rfl
                           refine done_ (done_of HT_.out (by kernel_rfl)) ?_
                           have hnb88 := NB288_261.out
                           have hnc88 := NB261_288.out
                           have hnb89 := NB288_262.out
                           have hnc89 := NB262_288.out
                           have hcz90_0 : w84.cell? ⟨gb288, 0, none⟩ = some (.slice none 0 0) := (blk_cell BK288.out 0).trans rfl
                           have hcz90_1 : w84.cell? ⟨gb288, 1, none⟩ = some (.int .i64 0) := (blk_cell BK288.out 1).trans rfl
                           have hfz90_0 := blk_frozen BK288.out 0
                           have hfz90_1 := blk_frozen BK288.out 1
                           go_upto_region 28 with (first | ((with_reducible refine gate_callee (f := 31) rfl ?_); refine goesL_ (some 151) rfl rfl Try.func31 (by kernel_rfl) rfl #[.agg #[.slice Ao85 t283.length co85, .int .i64 t286]] rfl (by (try simp only [List.map_toArray, List.map_cons, List.map_nil]); first | done | rfl | (simp only [List.length_drop, List.length_take]; rfl)) ?_; (with_reducible refine (layout_Rank.calls _ _ t283 t286 t289 _ ?side1 ?side2 A78.out).mono ?_); (case side1 => refine (Kd.R_reads' (e := 4) (base := w.heap.size) (ok := fun k_ => (w.heap.size ≤ k_)) (n := t283.length) (c := co85) ?_).2.2; exact (by (with_reducible repeat (first | apply Kd.R_alloc | apply Kd.R_drewN | apply Kd.R_drew)); exact (Kd.R_mono (Kd.R_far (p := ⟨gb288, 1, none⟩) (Kd.R_far (p := ⟨gb288, 0, none⟩) (Kd.R_types HO285.out BK288.out (by decide)) (fun _ hk => hk.2) (.slice Ao85 t283.length co85)) (fun _ hk => hk.2) (.int .i64 t286)) (fun _ h_ => h_.1)))); (case side2 => exact (Kd.R_reads' HO285.out).2.1); rintro e w91 ⟨rfl, hb⟩; refine ⟨_, rfl, ?_⟩; have n0_ := Aside0.mk (Kd.R_below (by (with_reducible repeat (first | apply Kd.R_alloc | apply Kd.R_drewN | apply Kd.R_drew)); exact (Kd.R_mono (Kd.R_far (p := ⟨gb288, 1, none⟩) (Kd.R_far (p := ⟨gb288, 0, none⟩) (Kd.R_types HO_10.out BK288.out (by decide)) (fun _ hk => hk.2) (.slice Ao85 t283.length co85)) (fun _ hk => hk.2) (.int .i64 t286)) (fun _ h_ => h_.1))) hb); have n1_ := Aside0.mk (Kd.R_below (by (with_reducible repeat (first | apply Kd.R_alloc | apply Kd.R_drewN | apply Kd.R_drew)); exact (Kd.R_mono (Kd.R_far (p := ⟨gb288, 1, none⟩) (Kd.R_far (p := ⟨gb288, 0, none⟩) (Kd.R_types HO_14.out BK288.out (by decide)) (fun _ hk => hk.2) (.slice Ao85 t283.length co85)) (fun _ hk => hk.2) (.int .i64 t286)) (fun _ h_ => h_.1))) hb); have n2_ := Aside0.mk (Kd.R_below (by (with_reducible repeat (first | apply Kd.R_alloc | apply Kd.R_drewN | apply Kd.R_drew)); exact (Kd.R_mono (Kd.R_far (p := ⟨gb288, 1, none⟩) (Kd.R_far (p := ⟨gb288, 0, none⟩) (Kd.R_types HO_18.out BK288.out (by decide)) (fun _ hk => hk.2) (.slice Ao85 t283.length co85)) (fun _ hk => hk.2) (.int .i64 t286)) (fun _ h_ => h_.1))) hb); have n3_ := Aside0.mk (Kd.V_below (by (with_reducible repeat (first | apply Kd.V_alloc | apply Kd.V_drewN | apply Kd.V_drew)); exact (Kd.V_mono (Kd.V_far (p := ⟨gb288, 1, none⟩) (Kd.V_far (p := ⟨gb288, 0, none⟩) (Kd.V_mono HO_263000.out (fun k_ hk => (⟨hk, hk.2.2.2.2.2.2.2⟩ : _ ∧ k_ ≠ gb288))) (fun _ hk => hk.2) (.slice Ao85 t283.length co85)) (fun _ hk => hk.2) (.int .i64 t286)) (fun _ h_ => h_.1))) hb); have n4_ := Aside0.mk (Kd.R_below (by (with_reducible repeat (first | apply Kd.R_alloc | apply Kd.R_drewN | apply Kd.R_drew)); exact (Kd.R_mono (Kd.R_far (p := ⟨gb288, 1, none⟩) (Kd.R_far (p := ⟨gb288, 0, none⟩) (Kd.R_types HO285.out BK288.out (by decide)) (fun _ hk => hk.2) (.slice Ao85 t283.length co85)) (fun _ hk => hk.2) (.int .i64 t286)) (fun _ h_ => h_.1))) hb); have n5_ := Aside0.mk (blk_below (g := gb261) (o := .cells #[.int .i64 a0_0, .int .i64 a0_1, .int .i64 a0_2, .slice A0_3 l0_3.length c0_3, .slice A0_4 l0_4.length c0_4] 24 (0, 0)) (by (with_reducible repeat (first | refine blk_drewN ?_ _ | refine blk_drew ?_ | refine blk_alloc ?_ _)); refine blk_far ?_ NB261_288.out _; (with_reducible repeat (first | refine blk_drewN ?_ _ | refine blk_drew ?_ | refine blk_alloc ?_ _)); refine blk_far ?_ NB261_288.out _; (with_reducible repeat (first | refine blk_drewN ?_ _ | refine blk_drew ?_ | refine blk_alloc ?_ _)); exact BK261.out) hb); have n6_ := Aside0.mk (blk_below (g := gb262) (o := .cells #[.slice Ao68 x263000_5.length co68, .int .i64 x263001_5] 27 (0, 0)) (by (with_reducible repeat (first | refine blk_drewN ?_ _ | refine blk_drew ?_ | refine blk_alloc ?_ _)); refine blk_far ?_ NB262_288.out _; (with_reducible repeat (first | refine blk_drewN ?_ _ | refine blk_drew ?_ | refine blk_alloc ?_ _)); refine blk_far ?_ NB262_288.out _; (with_reducible repeat (first | refine blk_drewN ?_ _ | refine blk_drew ?_ | refine blk_alloc ?_ _)); exact BK262.out) hb); have n7_ := Aside0.mk (blk_below (g := gb288) (o := .cells #[.slice Ao85 t283.length co85, .int .i64 t286] 27 (0, 0)) (by (with_reducible repeat (first | refine blk_drewN ?_ _ | refine blk_drew ?_ | refine blk_alloc ?_ _)); refine blk_put (cs := #[.slice Ao85 t283.length co85, .int .i64 0]) ?_ 1 _ rfl; (with_reducible repeat (first | refine blk_drewN ?_ _ | refine blk_drew ?_ | refine blk_alloc ?_ _)); refine blk_put (cs := #[.slice none 0 0, .int .i64 0]) ?_ 0 _ rfl; (with_reducible repeat (first | refine blk_drewN ?_ _ | refine blk_drew ?_ | refine blk_alloc ?_ _)); exact BK288.out) hb); have n8_ := Aside0.mk (below_step (by repeat (first | (with_reducible first | exact HB.out | apply below_alloc | apply pw_below_drewN | apply below_drew1 | refine below_set ?_ GE261.out | refine below_set ?_ GE262.out | refine below_set ?_ GE288.out) | exact HB.out)) hb); clear HO_10; clear HO_14; clear HO_18; clear HO_263000; clear HO285; clear BK261; clear BK262; clear BK288; clear HB; have HO_10 := n0_; have HO_14 := n1_; have HO_18 := n2_; have HO_263000 := n3_; have HO285 := n4_; have BK261 := n5_; have BK262 := n6_; have BK288 := n7_; have HB := n8_; clear n0_ n1_ n2_ n3_ n4_ n5_ n6_ n7_ n8_; (try clear hb); (try clear hb2); (try clear hk); (try clear hi)))
                           (try simp only [Act.put, List.setIfInBounds_toArray, List.set_cons_zero, List.set_cons_succ])
                           go_cut [159] (fun v159 wc => ∃ (kq : Nat) (x159_78 : Bool), v159 = .bool x159_78 ∧ Aside0 (taquinlaw26_PuzzleSolves.j7 kq l1 a3 t263 t266 t270 t272 x17_5 t279 x19_6 x20_6 t289 x159_78 a0_0 a0_1 a0_2 l0_3 l0_4 x263000_5 x263001_5 = some true) ∧ Aside0 (kq ≤ kj69) ∧ Aside0 (Kd.R (Kd.int .i64) 3 wc w.heap.size (fun k_ => (w.heap.size ≤ k_)) (.slice (some ad277) t266.length co57) t266) ∧ Aside0 (Kd.R k51 51 wc w.heap.size (fun k_ => (w.heap.size ≤ k_) ∧ some k_ ≠ ((.slice (some ad282) t279.length co81) : Value).ownBlock) (.slice Ao64 t272.length co64) t272) ∧ Aside0 (Kd.R k51 51 wc w.heap.size (fun k_ => (w.heap.size ≤ k_) ∧ some k_ ≠ ((.slice Ao64 t272.length co64) : Value).ownBlock) (.slice (some ad282) t279.length co81) t279) ∧ Aside0 (Kd.V Kd.bool 4 wc w.heap.size (fun k_ => (P2_0_ k_ ∨ w.heap.size ≤ k_) ∧ some k_ ≠ ((.slice (some ad277) t266.length co57) : Value).ownBlock ∧ some k_ ≠ ((.slice Ao64 t272.length co64) : Value).ownBlock ∧ some k_ ≠ ((.slice (some ad282) t279.length co81) : Value).ownBlock ∧ some k_ ≠ ((.slice Ao85 t283.length co85) : Value).ownBlock ∧ k_ ≠ gb261 ∧ k_ ≠ gb262 ∧ k_ ≠ gb288) (.slice Ao68 x263000_5.length co68) x263000_5) ∧ Aside0 (Kd.R Kd.bool 4 wc w.heap.size (fun k_ => (w.heap.size ≤ k_)) (.slice Ao85 t283.length co85) t283) ∧ Aside0 (wc.heap[gb261]? = some (.cells #[.int .i64 a0_0, .int .i64 a0_1, .int .i64 a0_2, (.slice A0_3 l0_3.length c0_3), (.slice A0_4 l0_4.length c0_4)] 24 (0, 0))) ∧ Aside0 (wc.heap[gb262]? = some (.cells #[(.slice Ao68 x263000_5.length co68), .int .i64 x263001_5] 27 (0, 0))) ∧ Aside0 (wc.heap[gb288]? = some (.cells #[(.slice Ao85 t283.length co85), .int .i64 t286] 27 (0, 0))) ∧ Aside0 (Below w.heap.size w wc))
                           case first => as_aux_lemma =>
                            have H := HC79.out
                            clear HC79
                            by_cases c92 : t289 < 0
                            ·rw [if_pos c92] at H
                             have c92b0 : decide (t289 < 0) = true := decide_eq_true c92
                             clear c92
                             (first | rw [c92b0] | (simp only [i64_w, i32_w]; rw [c92b0]) | skip)
                             have H' := Aside0.mk H
                             clear H
                             go_wp2
                             go_meet
                             case rel => exact ⟨_, (true), (by first | rfl | (simp; done) | (simp [*]; done)), H', ⟨by have := HJ5.out; have := HJ24.out; have := HJ42.out; have := HJ55.out; have := HK5.out; have := HK6.out; have := HJ69.out; first | omega | exact Nat.le_refl _⟩, ⟨by (with_reducible repeat (first | apply Kd.R_alloc | apply Kd.R_drewN | apply Kd.R_drew)); exact HO_10.out⟩, ⟨by (with_reducible repeat (first | apply Kd.R_alloc | apply Kd.R_drewN | apply Kd.R_drew)); exact HO_14.out⟩, ⟨by (with_reducible repeat (first | apply Kd.R_alloc | apply Kd.R_drewN | apply Kd.R_drew)); exact HO_18.out⟩, ⟨by (with_reducible repeat (first | apply Kd.V_alloc | apply Kd.V_drewN | apply Kd.V_drew)); exact Kd.V_mono HO_263000.out (fun _ hk => ⟨hk.1, ⟨hk.2.2.1, ⟨hk.2.2.2.1, ⟨hk.2.2.2.2.1, ⟨hk.2.1, ⟨hk.2.2.2.2.2.1, ⟨hk.2.2.2.2.2.2.1, hk.2.2.2.2.2.2.2⟩⟩⟩⟩⟩⟩⟩)⟩, ⟨by (with_reducible repeat (first | apply Kd.R_alloc | apply Kd.R_drewN | apply Kd.R_drew)); exact HO285.out⟩, ⟨by (with_reducible repeat (first | refine blk_drewN ?_ _ | refine blk_drew ?_ | refine blk_alloc ?_ _)); exact BK261.out⟩, ⟨by (with_reducible repeat (first | refine blk_drewN ?_ _ | refine blk_drew ?_ | refine blk_alloc ?_ _)); exact BK262.out⟩, ⟨by (with_reducible repeat (first | refine blk_drewN ?_ _ | refine blk_drew ?_ | refine blk_alloc ?_ _)); exact BK288.out⟩, ⟨by repeat (first | (with_reducible first | exact HB.out | apply below_alloc | apply pw_below_drewN | apply below_drew1 | refine below_set ?_ GE261.out | refine below_set ?_ GE262.out | refine below_set ?_ GE288.out) | exact HB.out)⟩⟩
                            ·rw [if_neg c92] at H
                             have c92b0 : decide (t289 < 0) = false := decide_eq_false c92
                             clear c92
                             (first | rw [c92b0] | (simp only [i64_w, i32_w]; rw [c92b0]) | skip)
                             have H' := Aside0.mk H
                             clear H
                             go_wp2
                             go_meet
                             case rel => exact ⟨_, (decide (t289 ≥ (t266.length : Int))), (by first | rfl | (simp; done) | (simp [*]; done)), H', ⟨by have := HJ5.out; have := HJ24.out; have := HJ42.out; have := HJ55.out; have := HK5.out; have := HK6.out; have := HJ69.out; first | omega | exact Nat.le_refl _⟩, ⟨by (with_reducible repeat (first | apply Kd.R_alloc | apply Kd.R_drewN | apply Kd.R_drew)); exact HO_10.out⟩, ⟨by (with_reducible repeat (first | apply Kd.R_alloc | apply Kd.R_drewN | apply Kd.R_drew)); exact HO_14.out⟩, ⟨by (with_reducible repeat (first | apply Kd.R_alloc | apply Kd.R_drewN | apply Kd.R_drew)); exact HO_18.out⟩, ⟨by (with_reducible repeat (first | apply Kd.V_alloc | apply Kd.V_drewN | apply Kd.V_drew)); exact Kd.V_mono HO_263000.out (fun _ hk => ⟨hk.1, ⟨hk.2.2.1, ⟨hk.2.2.2.1, ⟨hk.2.2.2.2.1, ⟨hk.2.1, ⟨hk.2.2.2.2.2.1, ⟨hk.2.2.2.2.2.2.1, hk.2.2.2.2.2.2.2⟩⟩⟩⟩⟩⟩⟩)⟩, ⟨by (with_reducible repeat (first | apply Kd.R_alloc | apply Kd.R_drewN | apply Kd.R_drew)); exact HO285.out⟩, ⟨by (with_reducible repeat (first | refine blk_drewN ?_ _ | refine blk_drew ?_ | refine blk_alloc ?_ _)); exact BK261.out⟩, ⟨by (with_reducible repeat (first | refine blk_drewN ?_ _ | refine blk_drew ?_ | refine blk_alloc ?_ _)); exact BK262.out⟩, ⟨by (with_reducible repeat (first | refine blk_drewN ?_ _ | refine blk_drew ?_ | refine blk_alloc ?_ _)); exact BK288.out⟩, ⟨by repeat (first | (with_reducible first | exact HB.out | apply below_alloc | apply pw_below_drewN | apply below_drew1 | refine below_set ?_ GE261.out | refine below_set ?_ GE262.out | refine below_set ?_ GE288.out) | exact HB.out)⟩⟩
                           case rest => as_aux_lemma =>
                            clear HC79
                            try clear c1
                            try clear c2
                            try clear p2
                            try clear q2
                            try clear hx2
                            try clear c3
                            try clear c4
                            try clear c5
                            try clear c6
                            try clear c7
                            try clear c8
                            try clear c9
                            try clear c11
                            try clear c12
                            try clear c14
                            try clear c15
                            try clear c16
                            try clear c18
                            try clear c20
                            try clear p27
                            try clear q27
                            try clear hx27
                            try clear p28
                            try clear q28
                            try clear hx28
                            try clear c29
                            try clear c30
                            try clear c31
                            try clear c32
                            try clear c36
                            try clear c36b0
                            try clear c36b1
                            try clear c37
                            try clear c37b0
                            try clear c37b1
                            try clear c38
                            try clear c38b0
                            try clear c38b1
                            try clear c40
                            try clear c41
                            try clear c41b0
                            try clear c41b1
                            try clear c44
                            try clear c47
                            try clear c47b0
                            try clear c49
                            try clear c50
                            try clear c50b0
                            try clear c51
                            try clear c51b0
                            try clear c52
                            try clear c52b0
                            try clear c53
                            try clear c58
                            try clear c58b0
                            try clear c58b1
                            try clear c59
                            try clear c59b0
                            try clear c59b1
                            try clear c61
                            try clear c62
                            try clear c62b0
                            try clear c65
                            try clear c71
                            try clear c71b0
                            try clear c74
                            try clear c75
                            try clear c75b0
                            try clear c76
                            try clear c76b0
                            try clear c88
                            try clear c89
                            try clear c92
                            try clear c92b0
                            try clear hcz13_0
                            try clear hcz13_1
                            try clear hcz13_2
                            try clear hcz13_3
                            try clear hcz13_4
                            try clear hcz14_0
                            try clear hcz14_1
                            try clear hcz17_0
                            try clear hcz17_1
                            try clear hcz17_2
                            try clear hcz17_3
                            try clear hcz17_4
                            try clear hcz18_0
                            try clear hcz18_1
                            try clear hcz30_0
                            try clear hcz30_1
                            try clear hcz30_2
                            try clear hcz30_3
                            try clear hcz30_4
                            try clear hcz31_0
                            try clear hcz31_1
                            try clear hcz33_0
                            try clear hcz33_1
                            try clear hcz33_2
                            try clear hcz33_3
                            try clear hcz33_4
                            try clear hcz34_0
                            try clear hcz34_1
                            try clear hcz45_0
                            try clear hcz45_1
                            try clear hcz66_0
                            try clear hcz66_1
                            try clear hcz66_2
                            try clear hcz66_3
                            try clear hcz66_4
                            try clear hcz67_0
                            try clear hcz67_1
                            try clear hcz90_0
                            try clear hcz90_1
                            try clear hfz13_0
                            try clear hfz13_1
                            try clear hfz13_2
                            try clear hfz13_3
                            try clear hfz13_4
                            try clear hfz14_0
                            try clear hfz14_1
                            try clear hfz17_0
                            try clear hfz17_1
                            try clear hfz17_2
                            try clear hfz17_3
                            try clear hfz17_4
                            try clear hfz18_0
                            try clear hfz18_1
                            try clear hfz30_0
                            try clear hfz30_1
                            try clear hfz30_2
                            try clear hfz30_3
                            try clear hfz30_4
                            try clear hfz31_0
                            try clear hfz31_1
                            try clear hfz33_0
                            try clear hfz33_1
                            try clear hfz33_2
                            try clear hfz33_3
                            try clear hfz33_4
                            try clear hfz34_0
                            try clear hfz34_1
                            try clear hfz45_0
                            try clear hfz45_1
                            try clear hfz66_0
                            try clear hfz66_1
                            try clear hfz66_2
                            try clear hfz66_3
                            try clear hfz66_4
                            try clear hfz67_0
                            try clear hfz67_1
                            try clear hfz90_0
                            try clear hfz90_1
                            try clear hx277_0
                            try clear hx278_0
                            try clear hx282_0
                            try clear hx282_1
                            try clear p2
                            try clear p27
                            try clear p277
                            try clear p278
                            try clear p282
                            try clear q2
                            try clear q27
                            try clear q277
                            try clear q278
                            try clear q282
                            obtain ⟨kq, x159_78, rfl, HA, HJ78, HO_10, HO_14, HO_18, HO_263000, HO_289000, BK261, BK262, BK288, HB⟩ := hcut
                            cases kq with
                            | zero => exact absurd HA.out (by simp [taquinlaw26_PuzzleSolves.j7])
                            | succ kj78 =>
                             have H := HA.out
                             clear HA
                             simp only [taquinlaw26_PuzzleSolves.j7] at H
                             by_cases c93 : x159_78 = true
                             ·subst c93
                              have H1 : (some false) = some true := by rw [if_pos rfl] at H; exact H
                              clear H
                              have H := H1
                              clear H1
                              exact absurd H (by simp)
                             ·replace c93 := Bool.eq_false_iff.mpr c93
                              subst c93
                              have H1 : (if 0 ≤ t289 then (if t289 < (t266.length : Int) then (if (rd t266 t289) = (wrap64 ((wrap64 (t270 - 1)) - x17_5)) then (taquinlaw26_PuzzleSolves.l1 kj78 l1 a3 t263 t266 t270 t272 x17_5 t279 x20_6 (wrap64 (x20_6 + 1)) a0_0 a0_1 a0_2 l0_3 l0_4 x263000_5 x263001_5) else (taquinlaw26_PuzzleSolves.l1 kj78 l1 a3 t263 t266 t270 t272 x17_5 t279 x19_6 (wrap64 (x20_6 + 1)) a0_0 a0_1 a0_2 l0_3 l0_4 x263000_5 x263001_5)) else (none)) else (none)) = some true := by rw [if_neg (show ¬ (false = true) by decide)] at H; exact H
                              clear H
                              have H := H1
                              clear H1
                              by_cases c94 : 0 ≤ t289
                              ·rw [if_pos c94] at H
                               have c94b0 : decide (0 ≤ t289) = true := decide_eq_true c94
                               clear c94
                               by_cases c95 : t289 < (t266.length : Int)
                               ·rw [if_pos c95] at H
                                have c95b0 : decide (t289 < (t266.length : Int)) = true := decide_eq_true c95
                                clear c95
                                by_cases c96 : (rd t266 t289) = (wrap64 ((wrap64 (t270 - 1)) - x17_5))
                                ·rw [if_pos c96] at H
                                 have c96b0 : ((rd t266 t289) == (wrap64 ((wrap64 (t270 - 1)) - x17_5))) = true := beq_iff_eq.mpr c96
                                 have c96b1 : ((rd t266 t289) != (wrap64 ((wrap64 (t270 - 1)) - x17_5))) = false := bne_eq_false_iff_eq.mpr c96
                                 clear c96
                                 have H' := Aside0.mk H
                                 clear H
                                 have p290 : 0 ≤ (t289 : Int) := of_decide_eq_true (by first | (with_reducible assumption) | assumption)
                                 have q290 : t289 < (t266.length : Int) := of_decide_eq_true (by first | (with_reducible assumption) | assumption)
                                 obtain ⟨ad290, e290, hx290_0⟩ := Kd.at_int (Kd.R_reads' HO_10.out).2.2 t289 p290 q290
                                 obtain rfl : ad277 = ad290 := (by injection e290)
                                 replace p290 := eq_true p290
                                 replace q290 := eq_true q290
                                 go_wp2
                                 go_roundg kj78
                                 case measure => have := HJ5.out; have := HJ24.out; have := HJ42.out; have := HJ55.out; have := HK5.out; have := HK6.out; have := HJ69.out; have := HJ78.out; omega
                                 case rel => exact ⟨(x20_6), (wrap64 (x20_6 + 1)), (by first | rfl | (simp; done) | (simp [*]; done)), (by first | rfl | (simp; done) | (simp [*]; done)), H', ⟨by have := HJ5.out; have := HJ24.out; have := HJ42.out; have := HJ55.out; have := HK5.out; have := HK6.out; have := HJ69.out; have := HJ78.out; omega⟩, ⟨by (with_reducible repeat (first | apply Kd.R_alloc | apply Kd.R_drewN | apply Kd.R_drew)); exact HO_10.out⟩, ⟨by (with_reducible repeat (first | apply Kd.R_alloc | apply Kd.R_drewN | apply Kd.R_drew)); exact HO_14.out⟩, ⟨by (with_reducible repeat (first | apply Kd.R_alloc | apply Kd.R_drewN | apply Kd.R_drew)); exact HO_18.out⟩, ⟨by (with_reducible repeat (first | apply Kd.V_alloc | apply Kd.V_drewN | apply Kd.V_drew)); exact Kd.V_mono HO_263000.out (fun _ hk => ⟨hk.1, ⟨hk.2.1, ⟨hk.2.2.1, ⟨hk.2.2.2.1, ⟨hk.2.2.2.2.2.1, hk.2.2.2.2.2.2.1⟩⟩⟩⟩⟩)⟩, ⟨by (with_reducible repeat (first | refine blk_drewN ?_ _ | refine blk_drew ?_ | refine blk_alloc ?_ _)); exact BK261.out⟩, ⟨by (with_reducible repeat (first | refine blk_drewN ?_ _ | refine blk_drew ?_ | refine blk_alloc ?_ _)); exact BK262.out⟩, ⟨by repeat (first | (with_reducible first | exact HB.out | apply below_alloc | apply pw_below_drewN | apply below_drew1 | refine below_set ?_ GE261.out | refine below_set ?_ GE262.out | refine below_set ?_ GE288.out) | exact HB.out)⟩⟩
                                ·rw [if_neg c96] at H
                                 have c96b0 : ((rd t266 t289) == (wrap64 ((wrap64 (t270 - 1)) - x17_5))) = false := beq_eq_false_iff_ne.mpr c96
                                 have c96b1 : ((rd t266 t289) != (wrap64 ((wrap64 (t270 - 1)) - x17_5))) = true := bne_iff_ne.mpr c96
                                 have H' := Aside0.mk H
                                 clear H
                                 have p290 : 0 ≤ (t289 : Int) := of_decide_eq_true (by first | (with_reducible assumption) | assumption)
                                 have q290 : t289 < (t266.length : Int) := of_decide_eq_true (by first | (with_reducible assumption) | assumption)
                                 obtain ⟨ad290, e290, hx290_0⟩ := Kd.at_int (Kd.R_reads' HO_10.out).2.2 t289 p290 q290
                                 obtain rfl : ad277 = ad290 := (by injection e290)
                                 replace p290 := eq_true p290
                                 replace q290 := eq_true q290
                                 go_wp2
                                 go_roundg kj78
                                 case measure => have := HJ5.out; have := HJ24.out; have := HJ42.out; have := HJ55.out; have := HK5.out; have := HK6.out; have := HJ69.out; have := HJ78.out; omega
                                 case rel => exact ⟨(x19_6), (wrap64 (x20_6 + 1)), (by first | rfl | (simp; done) | (simp [*]; done)), (by first | rfl | (simp; done) | (simp [*]; done)), H', ⟨by have := HJ5.out; have := HJ24.out; have := HJ42.out; have := HJ55.out; have := HK5.out; have := HK6.out; have := HJ69.out; have := HJ78.out; omega⟩, ⟨by (with_reducible repeat (first | apply Kd.R_alloc | apply Kd.R_drewN | apply Kd.R_drew)); exact HO_10.out⟩, ⟨by (with_reducible repeat (first | apply Kd.R_alloc | apply Kd.R_drewN | apply Kd.R_drew)); exact HO_14.out⟩, ⟨by (with_reducible repeat (first | apply Kd.R_alloc | apply Kd.R_drewN | apply Kd.R_drew)); exact HO_18.out⟩, ⟨by (with_reducible repeat (first | apply Kd.V_alloc | apply Kd.V_drewN | apply Kd.V_drew)); exact Kd.V_mono HO_263000.out (fun _ hk => ⟨hk.1, ⟨hk.2.1, ⟨hk.2.2.1, ⟨hk.2.2.2.1, ⟨hk.2.2.2.2.2.1, hk.2.2.2.2.2.2.1⟩⟩⟩⟩⟩)⟩, ⟨by (with_reducible repeat (first | refine blk_drewN ?_ _ | refine blk_drew ?_ | refine blk_alloc ?_ _)); exact BK261.out⟩, ⟨by (with_reducible repeat (first | refine blk_drewN ?_ _ | refine blk_drew ?_ | refine blk_alloc ?_ _)); exact BK262.out⟩, ⟨by repeat (first | (with_reducible first | exact HB.out | apply below_alloc | apply pw_below_drewN | apply below_drew1 | refine below_set ?_ GE261.out | refine below_set ?_ GE262.out | refine below_set ?_ GE288.out) | exact HB.out)⟩⟩
                               ·rw [if_neg c95] at H
                                exact absurd H (by simp)
                              ·rw [if_neg c94] at H
                               exact absurd H (by simp)
                          ·rw [if_neg c76] at H
                           exact absurd H (by simp)
                         ·rw [if_neg c75] at H
                          exact absurd H (by simp)
                        ·replace c74 := Bool.eq_false_iff.mpr c74
                         subst c74
                         have H1 : (if x19_6 < 0 then (some false) else (if 0 ≤ x19_6 then (if x19_6 < (t279.length : Int) then (if 0 ≤ x17_5 then (if x17_5 < (t272.length : Int) then (if (!(((rd_T51 t279 x19_6).f0) == ((rd_T51 t272 x17_5).f0)) || (!(((rd_T51 t279 x19_6).f1) == ((rd_T51 t272 x17_5).f1)))) = true then (some false) else ((layout_Do.f x263000_5 x263001_5 ((rd_T51 t272 x17_5).f0) ((rd_T51 t272 x17_5).f1)).bind fun bt294 => (taquinlaw26_PuzzleSolves.l0 kj69 l1 a3 t263 t266 t270 t272 (wrap64 (x17_5 + 1)) a0_0 a0_1 a0_2 l0_3 l0_4 bt294.1 bt294.2.1))) else (none)) else (none)) else (none)) else (none))) = some true := by rw [if_neg (show ¬ (false = true) by decide)] at H; exact H
                         clear H
                         have H := H1
                         clear H1
                         by_cases c97 : x19_6 < 0
                         ·rw [if_pos c97] at H
                          have c97b0 : decide (x19_6 < 0) = true := decide_eq_true c97
                          clear c97
                          exact absurd H (by simp)
                         ·rw [if_neg c97] at H
                          have c97b0 : decide (x19_6 < 0) = false := decide_eq_false c97
                          clear c97
                          by_cases c98 : 0 ≤ x19_6
                          ·rw [if_pos c98] at H
                           have c98b0 : decide (0 ≤ x19_6) = true := decide_eq_true c98
                           clear c98
                           by_cases c99 : x19_6 < (t279.length : Int)
                           ·rw [if_pos c99] at H
                            have c99b0 : decide (x19_6 < (t279.length : Int)) = true := decide_eq_true c99
                            clear c99
                            by_cases c100 : 0 ≤ x17_5
                            ·rw [if_pos c100] at H
                             have c100b0 : decide (0 ≤ x17_5) = true := decide_eq_true c100
                             clear c100
                             by_cases c101 : x17_5 < (t272.length : Int)
                             ·rw [if_pos c101] at H
                              have c101b0 : decide (x17_5 < (t272.length : Int)) = true := decide_eq_true c101
                              clear c101
                              by_cases c102 : (!(((rd_T51 t279 x19_6).f0) == ((rd_T51 t272 x17_5).f0)) || (!(((rd_T51 t279 x19_6).f1) == ((rd_T51 t272 x17_5).f1)))) = true
                              ·rw [if_pos c102] at H
                               have c102b0 : (!(((rd_T51 t279 x19_6).f0) == ((rd_T51 t272 x17_5).f0)) || (!(((rd_T51 t279 x19_6).f1) == ((rd_T51 t272 x17_5).f1)))) = true := c102
                               clear c102
                               exact absurd H (by simp)
                              ·rw [if_neg c102] at H
                               have c102b0 : (!(((rd_T51 t279 x19_6).f0) == ((rd_T51 t272 x17_5).f0)) || (!(((rd_T51 t279 x19_6).f1) == ((rd_T51 t272 x17_5).f1)))) = false := by simpa using c102
                               clear c102
                               replace H := Option.bind_eq_some_iff.mp H
                               obtain ⟨⟨t294, t297, t298⟩, A1050, H⟩ := H
                               replace H : (taquinlaw26_PuzzleSolves.l0 kj69 l1 a3 t263 t266 t270 t272 (wrap64 (x17_5 + 1)) a0_0 a0_1 a0_2 l0_3 l0_4 t294 t297) = some true := H
                               have A105 := Aside0.mk A1050
                               clear A1050
                               have H' := Aside0.mk H
                               clear H
                               try go_wp2
                               have n0_ := Aside0.mk (Kd.R_drew HO_10.out)
                               have n1_ := Aside0.mk (Kd.R_drew HO_14.out)
                               have n2_ := Aside0.mk (Kd.R_drew HO_18.out)
                               have n3_ := Aside0.mk (Kd.V_drew HO_263000.out)
                               have n4_ := Aside0.mk (blk_drew BK261.out)
                               have n5_ := Aside0.mk (blk_drew BK262.out)
                               have n6_ := Aside0.mk (below_drew1 HB.out)
                               clear HO_10
                               clear HO_14
                               clear HO_18
                               clear HO_263000
                               clear BK261
                               clear BK262
                               clear HB
                               have HO_10 := n0_
                               have HO_14 := n1_
                               have HO_18 := n2_
                               have HO_263000 := n3_
                               have BK261 := n4_
                               have BK262 := n5_
                               have HB := n6_
                               clear n0_ n1_ n2_ n3_ n4_ n5_ n6_
                               obtain ⟨Ao107, co107, eo107⟩ := Kd.R_slice HO_18.out
                               (first | subst eo107 | (injection eo107 with f1_ f2_ f3_; have f4_ := f1_.symm; have f5_ := f3_.symm; clear f1_ f2_ f3_; subst f4_; subst f5_))
                               have p291 : 0 ≤ (x19_6 : Int) := of_decide_eq_true (by first | (with_reducible assumption) | assumption)
                               have q291 : x19_6 < (t279.length : Int) := of_decide_eq_true (by first | (with_reducible assumption) | assumption)
                               obtain ⟨ad291, e291, hx291_0, hx291_1⟩ := at_T51 (Kd.R_reads' HO_18.out).2.2 x19_6 p291 q291
                               cases e291
                               replace p291 := eq_true p291
                               replace q291 := eq_true q291
                               have p292 : 0 ≤ (x17_5 : Int) := of_decide_eq_true (by first | (with_reducible assumption) | assumption)
                               have q292 : x17_5 < (t272.length : Int) := of_decide_eq_true (by first | (with_reducible assumption) | assumption)
                               obtain ⟨ad292, e292, hx292_0, hx292_1⟩ := at_T51 (Kd.R_reads' HO_14.out).2.2 x17_5 p292 q292
                               cases e292
                               replace p292 := eq_true p292
                               replace q292 := eq_true q292
                               refine start_ (n := 9) (S := fun w' => w'.cell? (ad291.add ((x19_6).toNat * 2)) = some (.int .i64 ((rd_T51 t279 x19_6).f0)) ∧ w'.cell? ⟨(ad291.add ((x19_6).toNat * 2)).block, (ad291.add ((x19_6).toNat * 2)).off + 1, none⟩ = some (.int .i64 ((rd_T51 t279 x19_6).f1)) ∧ w'.cell? (ad292.add ((x17_5).toNat * 2)) = some (.int .i64 ((rd_T51 t272 x17_5).f0)) ∧ w'.cell? ⟨(ad292.add ((x17_5).toNat * 2)).block, (ad292.add ((x17_5).toNat * 2)).off + 1, none⟩ = some (.int .i64 ((rd_T51 t272 x17_5).f1))) (ds := []) #[false, false, false, false, false, false, false, false, false] (by kernel_rfl) rfl rfl ⟨hx291_0, hx291_1, hx292_0, hx292_1⟩ (fun hHeld => ?_); refine with_tabW taquinlaw26_PuzzleSolves.tab34 taquinlaw26_PuzzleSolves.bits34 (fun HT_ HW_ => ?_)
                               generalize wc.drew = w106 at HO_10 HO_14 HO_18 HO_263000 BK261 BK262 HB hx291_0 hx291_1 hx292_0 hx292_1 hHeld ⊢
                               refine pure_ (i := 0) (N := some 172) (v := ?_) (a' := ?_) #[true, false, false, false, false, false, false, false, false] rfl rfl (any_of HT_.out (by kernel_rfl)) (fun _ _ _ h => h) (Or.inl ⟨by rfl, ?_⟩) ?_ ?_
                               rotate_left
                               ·intro w'
                                go_simp
                                with_reducible rfl
                               rotate_left
                               ·simp only [Act.put, List.setIfInBounds_toArray, List.set_cons_zero, List.set_cons_succ, i64_w, i32_w]
                                rfl
                               refine pure_ (i := 1) (N := some 173) (v := ?_) (a' := ?_) #[true, true, false, false, false, false, false, false, false] rfl rfl (any_of HT_.out (by kernel_rfl)) (fun _ _ _ h => h) (Or.inl ⟨by rfl, ?_⟩) ?_ ?_
                               rotate_left
                               ·intro w'
                                go_simp
                                with_reducible rfl
                               rotate_left
                               ·simp only [Act.put, List.setIfInBounds_toArray, List.set_cons_zero, List.set_cons_succ, i64_w, i32_w]
                                rfl
                               refine pure_ (i := 2) (N := some 174) (v := ?_) (a' := ?_) #[true, true, true, false, false, false, false, false, false] rfl rfl (any_of HT_.out (by kernel_rfl)) (fun _ _ _ h => h) (Or.inl ⟨by rfl, ?_⟩) ?_ ?_
                               rotate_left
                               ·intro w'
                                go_simp
                                with_reducible rfl
                               rotate_left
                               ·simp only [Act.put, List.setIfInBounds_toArray, List.set_cons_zero, List.set_cons_succ, i64_w, i32_w]
                                rfl
                               refine pure_ (i := 4) (N := some 176) (v := ?_) (a' := ?_) #[true, true, true, false, true, false, false, false, false] rfl rfl (any_of HT_.out (by kernel_rfl)) (fun _ _ _ h => h) (Or.inl ⟨by rfl, ?_⟩) ?_ ?_
                               rotate_left
                               ·intro w'
                                go_simp
                                with_reducible rfl
                               rotate_left
                               ·simp only [Act.put, List.setIfInBounds_toArray, List.set_cons_zero, List.set_cons_succ, i64_w, i32_w]
                                rfl
                               refine pure_ (i := 5) (N := some 177) (v := ?_) (a' := ?_) #[true, true, true, false, true, true, false, false, false] rfl rfl (any_of HT_.out (by kernel_rfl)) (fun _ _ _ h => h) (Or.inl ⟨by rfl, ?_⟩) ?_ ?_
                               rotate_left
                               ·intro w'
                                go_simp
                                with_reducible rfl
                               rotate_left
                               ·simp only [Act.put, List.setIfInBounds_toArray, List.set_cons_zero, List.set_cons_succ, i64_w, i32_w]
                                rfl
                               refine pure_ (i := 6) (N := some 178) (v := ?_) (a' := ?_) #[true, true, true, false, true, true, true, false, false] rfl rfl (any_of HT_.out (by kernel_rfl)) (fun _ _ _ h => h) (Or.inl ⟨by rfl, ?_⟩) ?_ ?_
                               rotate_left
                               ·intro w'
                                go_simp
                                with_reducible rfl
                               rotate_left
                               ·simp only [Act.put, List.setIfInBounds_toArray, List.set_cons_zero, List.set_cons_succ, i64_w, i32_w]
                                rfl
                               refine take_ (i := 3) (N := some 175) (v := ?_) (a' := ?_) #[true, true, true, true, true, true, true, false, false] rfl rfl (take_ofW HT_.out HW_.out (by kernel_rfl)) (fun _ _ _ h => h) (Or.inl ⟨by rfl, ?_⟩) hHeld ?_ ?_
                               rotate_left
                               ·rintro w' ⟨s0, s1, s2, s3⟩
                                go_simp
                                with_reducible rfl
                               rotate_left
                               ·simp only [Act.put, List.setIfInBounds_toArray, List.set_cons_zero, List.set_cons_succ, i64_w, i32_w]
                                rfl
                               refine take_ (i := 7) (N := some 179) (v := ?_) (a' := ?_) #[true, true, true, true, true, true, true, true, false] rfl rfl (take_ofW HT_.out HW_.out (by kernel_rfl)) (fun _ _ _ h => h) (Or.inl ⟨by rfl, ?_⟩) hHeld ?_ ?_
                               rotate_left
                               ·rintro w' ⟨s0, s1, s2, s3⟩
                                go_simp
                                with_reducible rfl
                               rotate_left
                               ·simp only [Act.put, List.setIfInBounds_toArray, List.set_cons_zero, List.set_cons_succ, i64_w, i32_w]
                                rfl
                               refine pure_ (i := 8) (N := some 180) (v := ?_) (a' := ?_) #[true, true, true, true, true, true, true, true, true] rfl rfl (any_of HT_.out (by kernel_rfl)) (fun _ _ _ h => h) (Or.inl ⟨by rfl, ?_⟩) ?_ ?_
                               rotate_left
                               ·intro w'
                                go_simp
                                with_reducible rfl
                               rotate_left
                               ·simp only [Act.put, List.setIfInBounds_toArray, List.set_cons_zero, List.set_cons_succ, i64_w, i32_w]
                                rfl
                               refine done_ (done_of HT_.out (by kernel_rfl)) ?_
                               try go_wp2
                               have n0_ := Aside0.mk (Kd.R_drew HO_10.out)
                               have n1_ := Aside0.mk (Kd.R_drew HO_14.out)
                               have n2_ := Aside0.mk (Kd.R_drew HO_18.out)
                               have n3_ := Aside0.mk (Kd.V_drew HO_263000.out)
                               have n4_ := Aside0.mk (blk_drew BK261.out)
                               have n5_ := Aside0.mk (blk_drew BK262.out)
                               have n6_ := Aside0.mk (below_drew1 HB.out)
                               clear HO_10
                               clear HO_14
                               clear HO_18
                               clear HO_263000
                               clear BK261
                               clear BK262
                               clear HB
                               have HO_10 := n0_
                               have HO_14 := n1_
                               have HO_18 := n2_
                               have HO_263000 := n3_
                               have BK261 := n4_
                               have BK262 := n5_
                               have HB := n6_
                               clear n0_ n1_ n2_ n3_ n4_ n5_ n6_
                               have p293 : 0 ≤ (x17_5 : Int) := of_decide_eq_true (by first | (with_reducible assumption) | assumption)
                               have q293 : x17_5 < (t272.length : Int) := of_decide_eq_true (by first | (with_reducible assumption) | assumption)
                               obtain ⟨ad293, e293, hx293_0, hx293_1⟩ := at_T51 (Kd.R_reads' HO_14.out).2.2 x17_5 p293 q293
                               obtain rfl : ad292 = ad293 := (by injection e293)
                               replace p293 := eq_true p293
                               replace q293 := eq_true q293
                               refine start_ (n := 10) (S := fun w' => w'.cell? ⟨gb262, 0, none⟩ = some (.slice Ao68 x263000_5.length co68) ∧ w'.cell? ⟨gb262, 1, none⟩ = some (.int .i64 x263001_5) ∧ w'.cell? (ad292.add ((x17_5).toNat * 2)) = some (.int .i64 ((rd_T51 t272 x17_5).f0)) ∧ w'.cell? ⟨(ad292.add ((x17_5).toNat * 2)).block, (ad292.add ((x17_5).toNat * 2)).off + 1, none⟩ = some (.int .i64 ((rd_T51 t272 x17_5).f1))) (ds := [9]) #[false, false, false, false, false, false, false, false, false, false] (by kernel_rfl) rfl rfl ⟨(blk_cell BK262.out 0).trans rfl, (blk_cell BK262.out 1).trans rfl, hx293_0, hx293_1⟩ (fun hHeld => ?_); refine with_tabW taquinlaw26_PuzzleSolves.tab36 taquinlaw26_PuzzleSolves.bits36 (fun HT_ HW_ => ?_)
                               generalize w106.drew = w108 at HO_10 HO_14 HO_18 HO_263000 BK261 BK262 HB hx293_0 hx293_1 hHeld ⊢
                               refine pure_ (i := 1) (N := some 183) (v := ?_) (a' := ?_) #[false, true, false, false, false, false, false, false, false, false] rfl rfl (any_of HT_.out (by kernel_rfl)) (fun _ _ _ h => h) (Or.inl ⟨by rfl, ?_⟩) ?_ ?_
                               rotate_left
                               ·intro w'
                                go_simp
                                with_reducible rfl
                               rotate_left
                               ·simp only [Act.put, List.setIfInBounds_toArray, List.set_cons_zero, List.set_cons_succ, i64_w, i32_w]
                                rfl
                               refine pure_ (i := 2) (N := some 184) (v := ?_) (a' := ?_) #[false, true, true, false, false, false, false, false, false, false] rfl rfl (any_of HT_.out (by kernel_rfl)) (fun _ _ _ h => h) (Or.inl ⟨by rfl, ?_⟩) ?_ ?_
                               rotate_left
                               ·intro w'
                                go_simp
                                with_reducible rfl
                               rotate_left
                               ·simp only [Act.put, List.setIfInBounds_toArray, List.set_cons_zero, List.set_cons_succ, i64_w, i32_w]
                                rfl
                               refine pure_ (i := 3) (N := some 185) (v := ?_) (a' := ?_) #[false, true, true, true, false, false, false, false, false, false] rfl rfl (any_of HT_.out (by kernel_rfl)) (fun _ _ _ h => h) (Or.inl ⟨by rfl, ?_⟩) ?_ ?_
                               rotate_left
                               ·intro w'
                                go_simp
                                with_reducible rfl
                               rotate_left
                               ·simp only [Act.put, List.setIfInBounds_toArray, List.set_cons_zero, List.set_cons_succ, i64_w, i32_w]
                                rfl
                               refine take_ (i := 0) (N := some 182) (v := ?_) (a' := ?_) #[true, true, true, true, false, false, false, false, false, false] rfl rfl (take_ofW HT_.out HW_.out (by kernel_rfl)) (fun _ _ _ h => h) (Or.inl ⟨by rfl, ?_⟩) hHeld ?_ ?_
                               rotate_left
                               ·rintro w' ⟨s0, s1, s2, s3⟩
                                go_simp
                                with_reducible rfl
                               rotate_left
                               ·simp only [Act.put, List.setIfInBounds_toArray, List.set_cons_zero, List.set_cons_succ, i64_w, i32_w]
                                rfl
                               refine take_ (i := 4) (N := some 186) (v := ?_) (a' := ?_) #[true, true, true, true, true, false, false, false, false, false] rfl rfl (take_ofW HT_.out HW_.out (by kernel_rfl)) (fun _ _ _ h => h) (Or.inl ⟨by rfl, ?_⟩) hHeld ?_ ?_
                               rotate_left
                               ·rintro w' ⟨s0, s1, s2, s3⟩
                                go_simp
                                with_reducible rfl
                               rotate_left
                               ·simp only [Act.put, List.setIfInBounds_toArray, List.set_cons_zero, List.set_cons_succ, i64_w, i32_w]
                                rfl
                               refine one_ (i := 5) (N := some 187) #[true, true, true, true, true, true, false, false, false, false] rfl rfl (one_of HT_.out (by kernel_rfl)) (by decide) (fun K hK => ?_)
                               refine goes_ Try.func30 (by kernel_rfl) rfl #[.agg #[.slice Ao68 x263000_5.length co68, .int .i64 x263001_5], .agg #[.int .i64 ((rd_T51 t272 x17_5).f0), .int .i64 ((rd_T51 t272 x17_5).f1)]] (by rfl) rfl rfl (by (try simp only [List.map_toArray, List.map_cons, List.map_nil]); first | done | rfl | (simp only [List.length_drop, List.length_take]; rfl)) ?_
                               with_reducible refine (layout_Do.calls _ _ x263000_5 x263001_5 ((rd_T51 t272 x17_5).f0) ((rd_T51 t272 x17_5).f1) t294 t297 t298 _ ?side1 ?side2 A105.out).mono ?_
                               (case side1 => repeat (first | exact (Kd.V_reads' HO_263000.out).2.2 | (with_reducible refine Kd.C_alloc ?_ _) | (with_reducible refine Kd.C_drewN ?_ _) | (with_reducible refine Kd.C_drew ?_)))
                               (case side2 => exact (Kd.V_reads' HO_263000.out).2.1)
                               rintro e w109 ⟨v295, rfl, ho0, hb⟩
                               have HS2_ := (hb.cell (World.block_lt_of_cell? _ _ (hHeld.2.2.1))).trans (hHeld.2.2.1)
                               have HS3_ := (hb.cell (World.block_lt_of_cell? _ _ (hHeld.2.2.2))).trans (hHeld.2.2.2)
                               refine ⟨_, rfl, ?_⟩
                               have n0_ := Aside0.mk (Kd.R_below (by (with_reducible repeat (first | apply Kd.R_alloc | apply Kd.R_drewN | apply Kd.R_drew)); exact HO_10.out) hb)
                               have n1_ := Aside0.mk (Kd.R_below (by (with_reducible repeat (first | apply Kd.R_alloc | apply Kd.R_drewN | apply Kd.R_drew)); exact HO_14.out) hb)
                               have n2_ := Aside0.mk (Kd.R_below (by (with_reducible repeat (first | apply Kd.R_alloc | apply Kd.R_drewN | apply Kd.R_drew)); exact HO_18.out) hb)
                               have n3_ := Aside0.mk (Kd.V_elder' (by (with_reducible repeat (first | apply Kd.V_alloc | apply Kd.V_drewN | apply Kd.V_drew)); exact HO_263000.out) (Kd.R_base ho0) hb)
                               have n4_ := Aside0.mk (Kd.R_lower (Kd.R_newM (M := fun k_ => (w.heap.size ≤ k_)) ho0 (below_size (by repeat (first | (with_reducible first | exact HB.out | apply below_alloc | apply pw_below_drewN | apply below_drew1 | refine below_set ?_ GE261.out | refine below_set ?_ GE262.out) | exact HB.out))) (fun k_ h_ => h_)) (below_size (by repeat (first | (with_reducible first | exact HB.out | apply below_alloc | apply pw_below_drewN | apply below_drew1 | refine below_set ?_ GE261.out | refine below_set ?_ GE262.out) | exact HB.out))))
                               have n5_ := Aside0.mk (blk_below (g := gb261) (o := .cells #[.int .i64 a0_0, .int .i64 a0_1, .int .i64 a0_2, .slice A0_3 l0_3.length c0_3, .slice A0_4 l0_4.length c0_4] 24 (0, 0)) (by (with_reducible repeat (first | refine blk_drewN ?_ _ | refine blk_drew ?_ | refine blk_alloc ?_ _)); exact BK261.out) hb)
                               have n6_ := Aside0.mk (blk_below (g := gb262) (o := .cells #[.slice Ao68 x263000_5.length co68, .int .i64 x263001_5] 27 (0, 0)) (by (with_reducible repeat (first | refine blk_drewN ?_ _ | refine blk_drew ?_ | refine blk_alloc ?_ _)); exact BK262.out) hb)
                               have n7_ := Aside0.mk (below_step (by repeat (first | (with_reducible first | exact HB.out | apply below_alloc | apply pw_below_drewN | apply below_drew1 | refine below_set ?_ GE261.out | refine below_set ?_ GE262.out) | exact HB.out)) hb)
                               clear HO_10
                               clear HO_14
                               clear HO_18
                               clear HO_263000
                               clear BK261
                               clear BK262
                               clear HB
                               have HO_10 := n0_
                               have HO_14 := n1_
                               have HO_18 := n2_
                               have HO_263000 := n3_
                               have HO296 := n4_
                               have BK261 := n5_
                               have BK262 := n6_
                               have HB := n7_
                               clear n0_ n1_ n2_ n3_ n4_ n5_ n6_ n7_
                               (try clear hb)
                               (try clear hb2)
                               (try clear hk)
                               (try clear hi)
                               (try clear ho0)
                               obtain ⟨Ao110, co110, eo110⟩ := Kd.R_slice HO296.out
                               (first | subst eo110 | (injection eo110 with f1_ f2_ f3_; have f4_ := f1_.symm; have f5_ := f3_.symm; clear f1_ f2_ f3_; subst f4_; subst f5_))
                               refine hK.out _ _ ⟨(blk_cell BK262.out 0).trans rfl, (blk_cell BK262.out 1).trans rfl, HS2_, HS3_⟩ (fun hHeld => ?_)
                               clear hK K
                               refine norm_ (a' := ?_) ?_ ?_
                               rotate_left
                               ·show Act.put _ (some 187) _ = _
                                simp only [Act.put, List.setIfInBounds_toArray, List.set_cons_zero, List.set_cons_succ, i64_w, i32_w]
                                rfl
                               refine pure_ (i := 6) (N := some 181) (v := ?_) (a' := ?_) #[true, true, true, true, true, true, true, false, false, false] rfl rfl (any_of HT_.out (by kernel_rfl)) (fun _ _ _ h => h) (Or.inl ⟨by rfl, ?_⟩) ?_ ?_
                               rotate_left
                               ·intro w'
                                go_simp
                                with_reducible rfl
                               rotate_left
                               ·simp only [Act.put, List.setIfInBounds_toArray, List.set_cons_zero, List.set_cons_succ, i64_w, i32_w]
                                rfl
                               refine pure_ (i := 7) (N := some 188) (v := ?_) (a' := ?_) #[true, true, true, true, true, true, true, true, false, false] rfl rfl (any_of HT_.out (by kernel_rfl)) (fun _ _ _ h => h) (Or.inl ⟨by rfl, ?_⟩) ?_ ?_
                               rotate_left
                               ·intro w'
                                go_simp
                                with_reducible rfl
                               rotate_left
                               ·simp only [Act.put, List.setIfInBounds_toArray, List.set_cons_zero, List.set_cons_succ, i64_w, i32_w]
                                rfl
                               refine pure_ (i := 8) (N := some 189) (v := ?_) (a' := ?_) #[true, true, true, true, true, true, true, true, true, false] rfl rfl (any_of HT_.out (by kernel_rfl)) (fun _ _ _ h => h) (Or.inl ⟨by rfl, ?_⟩) ?_ ?_
                               rotate_left
                               ·intro w'
                                go_simp
                                with_reducible rfl
                               rotate_left
                               ·simp only [Act.put, List.setIfInBounds_toArray, List.set_cons_zero, List.set_cons_succ, i64_w, i32_w]
                                rfl
                               refine last_ (i := 9) (N := none) #[true, true, true, true, true, true, true, true, true, true] rfl rfl (one_of HT_.out (by kernel_rfl)) (by decide) (fun K hK => ?_)
                               have hs111 : w109.cell? ⟨gb262, 0, none⟩ = some (.slice Ao68 x263000_5.length co68) := (blk_cell BK262.out 0).trans rfl
                               have hfs111 := blk_frozen BK262.out 0
                               have hns111_0 := NB261_262.out
                               have hms111_0 := NB262_261.out
                               have hs112 : w109.cell? ⟨gb262, 1, none⟩ = some (.int .i64 x263001_5) := (blk_cell BK262.out 1).trans rfl
                               have hfs112 := blk_frozen BK262.out 1
                               have hns112_0 := NB261_262.out
                               have hms112_0 := NB262_261.out
                               refine skip_ (w1 := ?_) (by rfl) rfl ?_ ?_
                               rotate_left
                               ·go_simp
                                rfl
                               refine hK.out _ _ ?_
                               clear hK K
                               refine done_ (done_of HT_.out (by kernel_rfl)) ?_
                               try go_wp2
                               go_roundg kj69
                               case measure => have := HJ5.out; have := HJ24.out; have := HJ42.out; have := HJ55.out; have := HK5.out; have := HK6.out; have := HJ69.out; omega
                               case rel => exact ⟨(wrap64 (x17_5 + 1)), (t294), (t297), (.slice Ao110 t294.length co110), (by first | rfl | (simp; done) | (simp [*]; done)), H', ⟨by have := HJ5.out; have := HJ24.out; have := HJ42.out; have := HJ55.out; have := HK5.out; have := HK6.out; have := HJ69.out; omega⟩, ⟨by (with_reducible repeat (first | apply Kd.R_alloc | apply Kd.R_drewN | apply Kd.R_drew)); exact Kd.R_mono (Kd.R_far (p := ⟨gb262, 1, none⟩) (Kd.R_far (p := ⟨gb262, 0, none⟩) (Kd.R_types HO_10.out BK262.out (by decide)) (fun _ hk => hk.2) (.slice Ao110 t294.length co110)) (fun _ hk => hk.2) (.int .i64 t297)) (fun _ hk => hk.1)⟩, ⟨by (with_reducible repeat (first | apply Kd.R_alloc | apply Kd.R_drewN | apply Kd.R_drew)); exact Kd.R_mono (Kd.R_far (p := ⟨gb262, 1, none⟩) (Kd.R_far (p := ⟨gb262, 0, none⟩) (Kd.R_types HO_14.out BK262.out (by decide)) (fun _ hk => hk.2) (.slice Ao110 t294.length co110)) (fun _ hk => hk.2) (.int .i64 t297)) (fun _ hk => hk.1.1)⟩, ⟨Kd.V_mono (Kd.R_V (by (with_reducible repeat (first | apply Kd.R_alloc | apply Kd.R_drewN | apply Kd.R_drew)); exact Kd.R_bound (Kd.R_far (p := ⟨gb262, 1, none⟩) (Kd.R_far (p := ⟨gb262, 0, none⟩) (Kd.R_types (Kd.R_types (Kd.R_types (Kd.R_apart' (Kd.R_apart' HO296.out (Kd.R_typed HO_10.out) (by decide)) (Kd.R_typed HO_14.out) (by decide)) BK261.out (by decide)) BK262.out (by decide)) BK262.out (by decide)) (fun _ hk => hk.2) (.slice Ao110 t294.length co110)) (fun _ hk => hk.2) (.int .i64 t297)))) (by intro k_ hk; first | grind | (simp_all; done))⟩, ⟨by (with_reducible repeat (first | refine blk_drewN ?_ _ | refine blk_drew ?_ | refine blk_alloc ?_ _)); refine blk_far ?_ NB261_262.out _; (with_reducible repeat (first | refine blk_drewN ?_ _ | refine blk_drew ?_ | refine blk_alloc ?_ _)); refine blk_far ?_ NB261_262.out _; (with_reducible repeat (first | refine blk_drewN ?_ _ | refine blk_drew ?_ | refine blk_alloc ?_ _)); exact BK261.out⟩, ⟨by (with_reducible repeat (first | refine blk_drewN ?_ _ | refine blk_drew ?_ | refine blk_alloc ?_ _)); refine blk_put (cs := #[.slice Ao110 t294.length co110, .int .i64 x263001_5]) ?_ 1 _ rfl; (with_reducible repeat (first | refine blk_drewN ?_ _ | refine blk_drew ?_ | refine blk_alloc ?_ _)); refine blk_put (cs := #[.slice Ao68 x263000_5.length co68, .int .i64 x263001_5]) ?_ 0 _ rfl; (with_reducible repeat (first | refine blk_drewN ?_ _ | refine blk_drew ?_ | refine blk_alloc ?_ _)); exact BK262.out⟩, ⟨by repeat (first | (with_reducible first | exact HB.out | apply below_alloc | apply pw_below_drewN | apply below_drew1 | refine below_set ?_ GE261.out | refine below_set ?_ GE262.out) | exact HB.out)⟩⟩
                             ·rw [if_neg c101] at H
                              exact absurd H (by simp)
                            ·rw [if_neg c100] at H
                             exact absurd H (by simp)
                           ·rw [if_neg c99] at H
                            exact absurd H (by simp)
                          ·rw [if_neg c98] at H
                           exact absurd H (by simp)
                   ·rw [if_neg c62] at H
                    have c62b0 : decide (x17_5 < (t272.length : Int)) = false := decide_eq_false c62
                    clear c62
                    by_cases c113 : t263 = true
                    ·subst c113
                     have H1 : (some (x263001_5 == a3)) = some true := by rw [if_pos rfl] at H; exact H
                     clear H
                     have H := H1
                     clear H1
                     have hr_ := Option.some.inj H
                     obtain ⟨Ao114, co114, eo114⟩ := Kd.R_slice HO_14.out
                     subst eo114
                     have hnb115 := NB262_261.out
                     have hnc115 := NB261_262.out
                     have hcz116_0 : wr.cell? ⟨gb262, 0, none⟩ = some (u263000) := (blk_cell BK262.out 0).trans rfl
                     have hcz116_1 : wr.cell? ⟨gb262, 1, none⟩ = some (.int .i64 x263001_5) := (blk_cell BK262.out 1).trans rfl
                     have hfz116_0 := blk_frozen BK262.out 0
                     have hfz116_1 := blk_frozen BK262.out 1
                     go_wp2
                     go_ret
                     exact ⟨by first | rfl | (simp [errW_none, errW_some] <;> rfl) | (simp [*, errW_none, errW_some] <;> rfl), by repeat (first | (with_reducible first | exact HB.out | apply below_alloc | apply pw_below_drewN | apply below_drew1 | refine below_set ?_ GE261.out | refine below_set ?_ GE262.out) | exact HB.out)⟩
                    ·replace c113 := Bool.eq_false_iff.mpr c113
                     subst c113
                     have H1 : (some false) = some true := by rw [if_neg (show ¬ (false = true) by decide)] at H; exact H
                     clear H
                     have H := H1
                     clear H1
                     exact absurd H (by simp)
            ·rw [if_neg c51] at H
             exact absurd H (by simp)
           ·rw [if_neg c50] at H
            exact absurd H (by simp)
       ·rw [if_neg c41] at H
        have c41b0 : (t269 == 0) = false := beq_eq_false_iff_ne.mpr c41
        have c41b1 : (t269 != 0) = true := bne_iff_ne.mpr c41
        by_cases c118 : t263 = true
        ·subst c118
         have H1 : (some (t271 == t269)) = some true := by rw [if_pos rfl] at H; exact H
         clear H
         have H := H1
         clear H1
         have hr_ := Option.some.inj H
         go_wp2
         go_ret
         exact ⟨by first | rfl | (simp [errW_none, errW_some] <;> rfl) | (simp [*, errW_none, errW_some] <;> rfl), by repeat (first | (with_reducible first | exact HB.out | apply below_alloc | apply pw_below_drewN | apply below_drew1 | refine below_set ?_ GE261.out | refine below_set ?_ GE262.out) | exact HB.out)⟩
        ·replace c118 := Bool.eq_false_iff.mpr c118
         subst c118
         have H1 : (some false) = some true := by rw [if_neg (show ¬ (false = true) by decide)] at H; exact H
         clear H
         have H := H1
         clear H1
         exact absurd H (by simp)
end Go.Proofs.Ytogmjilaiopjmaa.P
end
section
set_option linter.unusedVariables false
set_option linter.unusedSimpArgs false
namespace Go.Proofs.Ytogmjilaiopjmaa.P
open Go.RowKit Go.Proofs.YtogmjilaiopjmaaW.PrintWords Go.Proofs.YtogmjilaiopjmaaW.PrintLast Go.Proofs.YtogmjilaiopjmaaW.PrintMore
theorem puzzleSolves_walk {a0_0 a0_1 a0_2 : Int} {A0_3 : Option Addr} {c0_3 : Nat} {l0_3 : List Int} {A0_4 : Option Addr} {c0_4 : Nat} {l0_4 : List Int} {A1 : Option Addr} {c1 : Nat} {l1 : List Int} {A2 : Option Addr} {c2 : Nat} {l2 : List Bool} {t goal : Int} (w : World)
  (hr0_3 : ReadsInt w .i64 A0_3 l0_3.length l0_3) (hc0_3 : l0_3.length ≤ c0_3) (hr0_4 : ReadsInt w .i64 A0_4 l0_4.length l0_4) (hc0_4 : l0_4.length ≤ c0_4) (hr1 : ReadsInt w .i64 A1 l1.length l1) (hc1 : l1.length ≤ c1) (_ : l1.length ≤ maxLen) (hr2 : ReadsOf Value.bool false w A2 l2.length l2) (hc2 : l2.length ≤ c2) (_ : (Lit.int .i64 t).wf = true) (_ : (Lit.int .i64 goal).wf = true) :
  Calls Try.prog 5 #[.agg #[.int .i64 a0_0, .int .i64 a0_1, .int .i64 a0_2, .slice A0_3 l0_3.length c0_3, .slice A0_4 l0_4.length c0_4], .slice A1 l1.length c1, .agg #[.slice A2 l2.length c2, .int .i64 t], .int .i64 goal] w fun e w' => e = .returned (.bool true) ∧ Below w.heap.size w w' := by
 obtain ⟨k, h⟩ := solves_true a0_0 a0_1 a0_2 l0_3 l0_4 l1 l2 t goal
 exact taquinlaw26_PuzzleSolves.calls k _ _ _ _ _ _ _ _ _ _ _ _ (fun _ => True) _ _ _ _ _ w (Kd.C_of_reads (d := (0 : Int)) (h1 := fun _ => rfl) hr0_3) hc0_3 (Kd.C_of_reads (d := (0 : Int)) (h1 := fun _ => rfl) hr0_4) hc0_4 (Kd.C_of_reads (d := (0 : Int)) (h1 := fun _ => rfl) hr1) hc1 (V_in hr2 hc2) h
end Go.Proofs.Ytogmjilaiopjmaa.P
end
