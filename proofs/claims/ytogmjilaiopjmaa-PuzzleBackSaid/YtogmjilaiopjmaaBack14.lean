/- Lemmas for the row of this claim: contracts of the functions that it reaches, and plain laws about numbers and lists. -/
import Derived.Test.YtogmjilaiopjmaaBack13
section
set_option linter.unusedVariables false
set_option linter.unusedSimpArgs false
namespace Go.Proofs.Ytogmjilaiopjmaa.P
open Go.RowKit Go.Proofs.YtogmjilaiopjmaaW.PrintWords Go.Proofs.YtogmjilaiopjmaaW.PrintLast Go.Proofs.YtogmjilaiopjmaaW.PrintMore
attribute [local go_sem] max2_int min2_int max_two min_two max_three min_three max_four min_four
set_option linter.unusedVariables false
set_option linter.unusedSimpArgs false
mutual
def taquinlaw26_PuzzleBack.j0 : Nat → List Int → Int → List Int → Bool → Bool → Int → Int → Int → List Int → List Int → List Bool → Int → Option (Bool)
 | 0, _, _, _, _, _, _, _, _, _, _, _, _ => none
 | k + 1, x1, x3, x4, x11, x40, x350000, x350001, x350002, x350003, x350004, x351000, x351001 => if x40 = true then (some x11) else ((puzzle_Least.f k x350000 x350001 x350002 x350003 x350004 x1 x351000 x351001 x3).bind fun bt354 => (if bt354.2 = 3 then (some x11) else (taquinlaw26_PuzzleBack.l0 k x1 x3 x4 x11 bt354.1 bt354.2 0 0 x350000 x350001 x350002 x350003 x350004 x351000 x351001)))
def taquinlaw26_PuzzleBack.l0 : Nat → List Int → Int → List Int → Bool → Int → Int → Int → Int → Int → Int → Int → List Int → List Int → List Bool → Int → Option (Bool)
 | 0, _, _, _, _, _, _, _, _, _, _, _, _, _, _, _ => none
 | k + 1, x1, x3, x4, x11, x12, x13, x14, x15, x350000, x350001, x350002, x350003, x350004, x351000, x351001 => if x15 < (x4.length : Int) then ((layout_Shifts.f x350000 x350001 x350002 x350003 x350004 x1 x351000 x351001).bind fun t358 => (if (t358.length : Int) > 0 then (if 0 ≤ x15 then (if (t358.length : Int) = 0 then (none) else (if 0 ≤ ((mx (rd x4 x15) 0) % (t358.length : Int)) then (if ((mx (rd x4 x15) 0) % (t358.length : Int)) < (t358.length : Int) then ((layout_Do.f x351000 x351001 ((rd_T51 t358 ((mx (rd x4 x15) 0) % (t358.length : Int))).f0) ((rd_T51 t358 ((mx (rd x4 x15) 0) % (t358.length : Int))).f1)).bind fun bt363 => (taquinlaw26_PuzzleBack.l0 k x1 x3 x4 x11 x12 x13 (wrap64 (x14 + 1)) (wrap64 (x15 + 1)) x350000 x350001 x350002 x350003 x350004 bt363.1 bt363.2.1)) else (none)) else (none))) else (none)) else (taquinlaw26_PuzzleBack.l0 k x1 x3 x4 x11 x12 x13 x14 (wrap64 (x15 + 1)) x350000 x350001 x350002 x350003 x350004 x351000 x351001))) else ((puzzle_Least.f k x350000 x350001 x350002 x350003 x350004 x1 x351000 x351001 x3).bind fun bt356 => (if x11 = true then (if x13 = bt356.2 then (some (decide ((mx (wrap64 (x12 - bt356.1)) (wrap64 (bt356.1 - x12))) ≤ x14))) else (some false)) else (some false)))
end
def taquinlaw26_PuzzleBack.f (k : Nat) (a0_0 : Int) (a0_1 : Int) (a0_2 : Int) (l0_3 : List Int) (l0_4 : List Int) (l1 : List Int) (l2_0 : List Bool) (a2_1 : Int) (a3 : Int) (l4 : List Int) : Option (Bool) := (taquinlaw26_small.f).bind fun t351 => ((taquinlaw26_fair.f k a0_0 a0_1 a0_2 l0_3 l0_4 l1 l2_0 a2_1).bind fun t352 => (if t352 = true then (if (l1.length : Int) > 9 then (taquinlaw26_PuzzleBack.j0 k l1 a3 l4 t351 true a0_0 a0_1 a0_2 l0_3 l0_4 l2_0 a2_1) else (if (l4.length : Int) > 50 then (taquinlaw26_PuzzleBack.j0 k l1 a3 l4 t351 true a0_0 a0_1 a0_2 l0_3 l0_4 l2_0 a2_1) else ((taquinlaw26_open.f k a0_0 a0_1 a0_2 l0_3 l0_4 l1).bind fun t353 => (taquinlaw26_PuzzleBack.j0 k l1 a3 l4 t351 (!t353) a0_0 a0_1 a0_2 l0_3 l0_4 l2_0 a2_1)))) else (taquinlaw26_PuzzleBack.j0 k l1 a3 l4 t351 true a0_0 a0_1 a0_2 l0_3 l0_4 l2_0 a2_1)))
def taquinlaw26_PuzzleBack.T13 : Bool × List (List Nat × List Nat) := (true, [([], []), ([], []), ([], []), ([], []), ([2, 3], [2, 3]), ([4], [4]), ([5], [5]), ([], []), ([7], [7]), ([6, 8], [6, 8]), ([1, 9], [1, 9]), ([10], [10]), ([0, 11], [0, 11]), ([12], [12]), ([13], [13]), ([13], [13]), ([14, 12, 0, 1, 2, 3, 4, 5, 6, 7, 8, 9, 10, 11, 12, 13, 14], [14])])
def taquinlaw26_PuzzleBack.B13 : List Nat := [0, 0, 0, 0, 12, 28, 60, 0, 128, 508, 1022, 2046, 4095, 8191, 16383, 16383, 32767]
theorem taquinlaw26_PuzzleBack.tab13 : rtab .any (opsOf Try.f7 13) = taquinlaw26_PuzzleBack.T13 := by kernel_rfl
theorem taquinlaw26_PuzzleBack.bits13 : waitsOk taquinlaw26_PuzzleBack.T13.2 taquinlaw26_PuzzleBack.B13 = true := by kernel_rfl
set_option maxHeartbeats 8000000 in
set_option maxRecDepth 100000 in
theorem taquinlaw26_PuzzleBack.calls (k : Nat) (a0_0 : Int) (a0_1 : Int) (a0_2 : Int) (A0_3 : Option Addr) (c0_3 : Nat) (l0_3 : List Int) (A0_4 : Option Addr) (c0_4 : Nat) (l0_4 : List Int) (A1 : Option Addr) (c1 : Nat) (l1 : List Int) (P2_0_ : Nat → Prop) (A2_0 : Option Addr) (c2_0 : Nat) (l2_0 : List Bool) (a2_1 : Int) (a3 : Int) (A4 : Option Addr) (c4 : Nat) (l4 : List Int) (r : Bool) (w : World) (hr0_3 : Kd.C (Kd.int .i64) w A0_3 l0_3.length l0_3) (hc0_3 : l0_3.length ≤ c0_3) (hr0_4 : Kd.C (Kd.int .i64) w A0_4 l0_4.length l0_4) (hc0_4 : l0_4.length ≤ c0_4) (hr1 : Kd.C (Kd.int .i64) w A1 l1.length l1) (hc1 : l1.length ≤ c1) (hs2_0 : Kd.V Kd.bool 4 w w.heap.size (fun k_ => P2_0_ k_) (.slice A2_0 l2_0.length c2_0) l2_0) (hr4 : Kd.C (Kd.int .i64) w A4 l4.length l4) (hc4 : l4.length ≤ c4) (h : taquinlaw26_PuzzleBack.f k a0_0 a0_1 a0_2 l0_3 l0_4 l1 l2_0 a2_1 a3 l4 = some r) :
  Calls Try.prog 7 #[.agg #[.int .i64 a0_0, .int .i64 a0_1, .int .i64 a0_2, .slice A0_3 l0_3.length c0_3, .slice A0_4 l0_4.length c0_4], .slice A1 l1.length c1, .agg #[.slice A2_0 l2_0.length c2_0, .int .i64 a2_1], .int .i64 a3, .slice A4 l4.length c4] w fun e w' => e = .returned (.bool r) ∧ Below w.heap.size w w' := by
 have hu24 := Try.underlying24
 have hu27 := Try.underlying27
 have hu51 := Try.underlying51
 have HR0_3 := Aside0.mk hr0_3
 have HC0_3 := Aside0.mk hc0_3
 clear hr0_3 hc0_3
 have HR0_4 := Aside0.mk hr0_4
 have HC0_4 := Aside0.mk hc0_4
 clear hr0_4 hc0_4
 have HR1 := Aside0.mk hr1
 have HC1 := Aside0.mk hc1
 clear hr1 hc1
 have HO2_0 := Aside0.mk (show Kd.V Kd.bool 4 w w.heap.size (fun k_ => (P2_0_ k_ ∨ w.heap.size ≤ k_)) (.slice A2_0 l2_0.length c2_0) l2_0 from Kd.V_mono hs2_0 (fun k_ hk => .inl hk))
 have HR4 := Aside0.mk hr4
 have HC4 := Aside0.mk hc4
 clear hr4 hc4
 have HB := Aside0.mk (Below.refl w.heap.size w)
 have H : ((taquinlaw26_small.f).bind fun t351 => ((taquinlaw26_fair.f k a0_0 a0_1 a0_2 l0_3 l0_4 l1 l2_0 a2_1).bind fun t352 => (if t352 = true then (if (l1.length : Int) > 9 then (taquinlaw26_PuzzleBack.j0 k l1 a3 l4 t351 true a0_0 a0_1 a0_2 l0_3 l0_4 l2_0 a2_1) else (if (l4.length : Int) > 50 then (taquinlaw26_PuzzleBack.j0 k l1 a3 l4 t351 true a0_0 a0_1 a0_2 l0_3 l0_4 l2_0 a2_1) else ((taquinlaw26_open.f k a0_0 a0_1 a0_2 l0_3 l0_4 l1).bind fun t353 => (taquinlaw26_PuzzleBack.j0 k l1 a3 l4 t351 (!t353) a0_0 a0_1 a0_2 l0_3 l0_4 l2_0 a2_1)))) else (taquinlaw26_PuzzleBack.j0 k l1 a3 l4 t351 true a0_0 a0_1 a0_2 l0_3 l0_4 l2_0 a2_1)))) = some r := h
 clear h
 replace H := Option.bind_eq_some_iff.mp H
 obtain ⟨t351, A60, H⟩ := H
 replace H : ((taquinlaw26_fair.f k a0_0 a0_1 a0_2 l0_3 l0_4 l1 l2_0 a2_1).bind fun t352 => (if t352 = true then (if (l1.length : Int) > 9 then (taquinlaw26_PuzzleBack.j0 k l1 a3 l4 t351 true a0_0 a0_1 a0_2 l0_3 l0_4 l2_0 a2_1) else (if (l4.length : Int) > 50 then (taquinlaw26_PuzzleBack.j0 k l1 a3 l4 t351 true a0_0 a0_1 a0_2 l0_3 l0_4 l2_0 a2_1) else ((taquinlaw26_open.f k a0_0 a0_1 a0_2 l0_3 l0_4 l1).bind fun t353 => (taquinlaw26_PuzzleBack.j0 k l1 a3 l4 t351 (!t353) a0_0 a0_1 a0_2 l0_3 l0_4 l2_0 a2_1)))) else (taquinlaw26_PuzzleBack.j0 k l1 a3 l4 t351 true a0_0 a0_1 a0_2 l0_3 l0_4 l2_0 a2_1))) = some r := H
 have A6 := Aside0.mk A60
 clear A60
 have HC7 := Aside0.mk H
 clear H
 go_enter Try.func7, Try.ntmps7
 go_upto_region 2 with (first | ((with_reducible refine gate_dst (N := 5) rfl ?_); (try (refine gate_guard (by rfl) ?_; dsimp only)); refine box_event ?hg (N := 5) ?hd (cs := #[.int .i64 a0_0, .int .i64 a0_1, .int .i64 a0_2, .slice A0_3 l0_3.length c0_3, .slice A0_4 l0_4.length c0_4]) (t := 24) ?hr ?_; (case hd => rfl); (case hg => rfl); (case hr => first | (go_simp; done) | (go_simp; rfl)); intro gb349 hg w8 hbox hb; have n0_ := Aside0.mk (Kd.V_below (Kd.V_elderB (by (with_reducible repeat (first | apply Kd.V_alloc | apply Kd.V_drewN | apply Kd.V_drew)); exact HO2_0.out) gb349 (Nat.le_of_eq hg.symm)) hb); have n1_ := Aside0.mk (below_step (by repeat (first | (with_reducible first | exact HB.out | apply below_alloc | apply pw_below_drewN | apply below_drew1) | exact HB.out)) hb); have n2_ := Aside0.mk (hbox); have n3_ := Aside0.mk ((by rw [hg]; exact (below_size (by repeat (first | (with_reducible first | exact HB.out | apply below_alloc | apply pw_below_drewN | apply below_drew1) | exact HB.out))) : w.heap.size ≤ gb349)); have n4_ := Aside0.mk ((by rw [hg]; exact (below_size (by repeat (first | (with_reducible first | exact HB.out | apply below_alloc | apply pw_below_drewN | apply below_drew1) | exact HB.out))) : w.heap.size ≤ gb349)); clear HO2_0; clear HB; have HO2_0 := n0_; have HB := n1_; have BK349 := n2_; have GW349 := n3_; have GE349 := n4_; clear n0_ n1_ n2_ n3_ n4_; clear hb hbox hg) | ((with_reducible refine gate_dst (N := 7) rfl ?_); (try (refine gate_guard (by rfl) ?_; dsimp only)); refine box_event ?hg (N := 7) ?hd (cs := #[.slice A2_0 l2_0.length c2_0, .int .i64 a2_1]) (t := 27) ?hr ?_; (case hd => rfl); (case hg => rfl); (case hr => first | (go_simp; done) | (go_simp; rfl)); intro gb350 hg w9 hbox hb; have n0_ := Aside0.mk (Kd.V_below (Kd.V_elderB (by (with_reducible repeat (first | apply Kd.V_alloc | apply Kd.V_drewN | apply Kd.V_drew)); exact HO2_0.out) gb350 (Nat.le_of_eq hg.symm)) hb); have n1_ := Aside0.mk (blk_below (g := gb349) (o := .cells #[.int .i64 a0_0, .int .i64 a0_1, .int .i64 a0_2, .slice A0_3 l0_3.length c0_3, .slice A0_4 l0_4.length c0_4] 24 (0, 0)) (by (with_reducible repeat (first | refine blk_drewN ?_ _ | refine blk_drew ?_ | refine blk_alloc ?_ _)); exact BK349.out) hb); have n2_ := Aside0.mk (below_step (by repeat (first | (with_reducible first | exact HB.out | apply below_alloc | apply pw_below_drewN | apply below_drew1 | refine below_set ?_ GE349.out) | exact HB.out)) hb); have n3_ := Aside0.mk (hbox); have n4_ := Aside0.mk ((by rw [hg]; exact (below_size (by repeat (first | (with_reducible first | exact HB.out | apply below_alloc | apply pw_below_drewN | apply below_drew1 | refine below_set ?_ GE349.out) | exact HB.out))) : w.heap.size ≤ gb350)); have n5_ := Aside0.mk ((by rw [hg]; exact (below_size (by repeat (first | (with_reducible first | exact HB.out | apply below_alloc | apply pw_below_drewN | apply below_drew1 | refine below_set ?_ GE349.out) | exact HB.out))) : w.heap.size ≤ gb350)); have n6_ := Aside0.mk ((by rw [hg]; exact Nat.ne_of_lt (blk_lt (g := gb349) (o := .cells #[.int .i64 a0_0, .int .i64 a0_1, .int .i64 a0_2, .slice A0_3 l0_3.length c0_3, .slice A0_4 l0_4.length c0_4] 24 (0, 0)) (by (with_reducible repeat (first | refine blk_drewN ?_ _ | refine blk_drew ?_ | refine blk_alloc ?_ _)); exact BK349.out)) : gb349 ≠ gb350)); have n7_ := Aside0.mk ((by rw [hg]; exact Nat.ne_of_gt (blk_lt (g := gb349) (o := .cells #[.int .i64 a0_0, .int .i64 a0_1, .int .i64 a0_2, .slice A0_3 l0_3.length c0_3, .slice A0_4 l0_4.length c0_4] 24 (0, 0)) (by (with_reducible repeat (first | refine blk_drewN ?_ _ | refine blk_drew ?_ | refine blk_alloc ?_ _)); exact BK349.out)) : gb350 ≠ gb349)); clear HO2_0; clear BK349; clear HB; have HO2_0 := n0_; have BK349 := n1_; have HB := n2_; have BK350 := n3_; have GW350 := n4_; have GE350 := n5_; have NB349_350 := n6_; have NB350_349 := n7_; clear n0_ n1_ n2_ n3_ n4_ n5_ n6_ n7_; clear hb hbox hg) | ((with_reducible refine gate_callee (f := 14) rfl ?_); refine goesL_ (some 19) rfl rfl Try.func14 (by kernel_rfl) rfl #[] rfl (by (try simp only [List.map_toArray, List.map_cons, List.map_nil]); first | done | rfl | (simp only [List.length_drop, List.length_take]; rfl)) ?_; (with_reducible refine (taquinlaw26_small.calls  t351 _ A6.out).mono ?_); rintro e w10 ⟨rfl, hb⟩; refine ⟨_, rfl, ?_⟩; have n0_ := Aside0.mk (Kd.V_below (by (with_reducible repeat (first | apply Kd.V_alloc | apply Kd.V_drewN | apply Kd.V_drew)); exact HO2_0.out) hb); have n1_ := Aside0.mk (blk_below (g := gb349) (o := .cells #[.int .i64 a0_0, .int .i64 a0_1, .int .i64 a0_2, .slice A0_3 l0_3.length c0_3, .slice A0_4 l0_4.length c0_4] 24 (0, 0)) (by (with_reducible repeat (first | refine blk_drewN ?_ _ | refine blk_drew ?_ | refine blk_alloc ?_ _)); exact BK349.out) hb); have n2_ := Aside0.mk (blk_below (g := gb350) (o := .cells #[.slice A2_0 l2_0.length c2_0, .int .i64 a2_1] 27 (0, 0)) (by (with_reducible repeat (first | refine blk_drewN ?_ _ | refine blk_drew ?_ | refine blk_alloc ?_ _)); exact BK350.out) hb); have n3_ := Aside0.mk (below_step (by repeat (first | (with_reducible first | exact HB.out | apply below_alloc | apply pw_below_drewN | apply below_drew1 | refine below_set ?_ GE349.out | refine below_set ?_ GE350.out) | exact HB.out)) hb); clear HO2_0; clear BK349; clear BK350; clear HB; have HO2_0 := n0_; have BK349 := n1_; have BK350 := n2_; have HB := n3_; clear n0_ n1_ n2_ n3_; (try clear hb); (try clear hb2); (try clear hk); (try clear hi)))
 (try simp only [Act.put, List.setIfInBounds_toArray, List.set_cons_zero, List.set_cons_succ])
 go_cut [40] (fun v40 wc => ∃ (kq : Nat) (x40_6 : Bool), v40 = .bool x40_6 ∧ Aside0 (taquinlaw26_PuzzleBack.j0 kq l1 a3 l4 t351 x40_6 a0_0 a0_1 a0_2 l0_3 l0_4 l2_0 a2_1 = some r) ∧ Aside0 (kq ≤ k) ∧ Aside0 (Kd.V Kd.bool 4 wc w.heap.size (fun k_ => (P2_0_ k_ ∨ w.heap.size ≤ k_) ∧ k_ ≠ gb349 ∧ k_ ≠ gb350) (.slice A2_0 l2_0.length c2_0) l2_0) ∧ Aside0 (wc.heap[gb349]? = some (.cells #[.int .i64 a0_0, .int .i64 a0_1, .int .i64 a0_2, (.slice A0_3 l0_3.length c0_3), (.slice A0_4 l0_4.length c0_4)] 24 (0, 0))) ∧ Aside0 (wc.heap[gb350]? = some (.cells #[(.slice A2_0 l2_0.length c2_0), .int .i64 a2_1] 27 (0, 0))) ∧ Aside0 (Below w.heap.size w wc))
 case first =>
  have H := HC7.out
  clear HC7
  replace H := Option.bind_eq_some_iff.mp H
  obtain ⟨t352, A110, H⟩ := H
  replace H : (if t352 = true then (if (l1.length : Int) > 9 then (taquinlaw26_PuzzleBack.j0 k l1 a3 l4 t351 true a0_0 a0_1 a0_2 l0_3 l0_4 l2_0 a2_1) else (if (l4.length : Int) > 50 then (taquinlaw26_PuzzleBack.j0 k l1 a3 l4 t351 true a0_0 a0_1 a0_2 l0_3 l0_4 l2_0 a2_1) else ((taquinlaw26_open.f k a0_0 a0_1 a0_2 l0_3 l0_4 l1).bind fun t353 => (taquinlaw26_PuzzleBack.j0 k l1 a3 l4 t351 (!t353) a0_0 a0_1 a0_2 l0_3 l0_4 l2_0 a2_1)))) else (taquinlaw26_PuzzleBack.j0 k l1 a3 l4 t351 true a0_0 a0_1 a0_2 l0_3 l0_4 l2_0 a2_1)) = some r := H
  have A11 := Aside0.mk A110
  clear A110
  by_cases c12 : t352 = true
  ·subst c12
   have H1 : (if (l1.length : Int) > 9 then (taquinlaw26_PuzzleBack.j0 k l1 a3 l4 t351 true a0_0 a0_1 a0_2 l0_3 l0_4 l2_0 a2_1) else (if (l4.length : Int) > 50 then (taquinlaw26_PuzzleBack.j0 k l1 a3 l4 t351 true a0_0 a0_1 a0_2 l0_3 l0_4 l2_0 a2_1) else ((taquinlaw26_open.f k a0_0 a0_1 a0_2 l0_3 l0_4 l1).bind fun t353 => (taquinlaw26_PuzzleBack.j0 k l1 a3 l4 t351 (!t353) a0_0 a0_1 a0_2 l0_3 l0_4 l2_0 a2_1)))) = some r := by rw [if_pos rfl] at H; exact H
   clear H
   have H := H1
   clear H1
   by_cases c13 : (l1.length : Int) > 9
   ·rw [if_pos c13] at H
    have c13b0 : decide (9 < (l1.length : Int)) = true := decide_eq_true c13
    have c13b1 : decide (9 < l1.length) = true := decide_eq_true (by omega)
    clear c13
    (first | rw [c13b0] | (simp only [i64_w, i32_w]; rw [c13b0]) | skip)
    have H' := Aside0.mk H
    clear H
    have hnb14 := NB349_350.out
    have hnc14 := NB350_349.out
    have hcz15_0 : w10.cell? ⟨gb349, 0, none⟩ = some (.int .i64 a0_0) := (blk_cell BK349.out 0).trans rfl
    have hcz15_1 : w10.cell? ⟨gb349, 1, none⟩ = some (.int .i64 a0_1) := (blk_cell BK349.out 1).trans rfl
    have hcz15_2 : w10.cell? ⟨gb349, 2, none⟩ = some (.int .i64 a0_2) := (blk_cell BK349.out 2).trans rfl
    have hcz15_3 : w10.cell? ⟨gb349, 3, none⟩ = some (.slice A0_3 l0_3.length c0_3) := (blk_cell BK349.out 3).trans rfl
    have hcz15_4 : w10.cell? ⟨gb349, 4, none⟩ = some (.slice A0_4 l0_4.length c0_4) := (blk_cell BK349.out 4).trans rfl
    have hfz15_0 := blk_frozen BK349.out 0
    have hfz15_1 := blk_frozen BK349.out 1
    have hfz15_2 := blk_frozen BK349.out 2
    have hfz15_3 := blk_frozen BK349.out 3
    have hfz15_4 := blk_frozen BK349.out 4
    have hcz16_0 : w10.cell? ⟨gb350, 0, none⟩ = some (.slice A2_0 l2_0.length c2_0) := (blk_cell BK350.out 0).trans rfl
    have hcz16_1 : w10.cell? ⟨gb350, 1, none⟩ = some (.int .i64 a2_1) := (blk_cell BK350.out 1).trans rfl
    have hfz16_0 := blk_frozen BK350.out 0
    have hfz16_1 := blk_frozen BK350.out 1
    go_wp2_with (first | ((with_reducible refine gate_callee (f := 15) rfl ?_); refine goesL_ (some 23) rfl rfl Try.func15 (by kernel_rfl) rfl #[.agg #[.int .i64 a0_0, .int .i64 a0_1, .int .i64 a0_2, .slice A0_3 l0_3.length c0_3, .slice A0_4 l0_4.length c0_4], .slice A1 l1.length c1, .agg #[.slice A2_0 l2_0.length c2_0, .int .i64 a2_1]] rfl (by (try simp only [List.map_toArray, List.map_cons, List.map_nil]); first | done | rfl | (simp only [List.length_drop, List.length_take]; rfl)) ?_; (with_reducible refine (taquinlaw26_fair.calls k a0_0 a0_1 a0_2 _ _ l0_3 _ _ l0_4 _ _ l1 _ _ l2_0 a2_1 true _ ?side1 ?side2 ?side3 ?side4 ?side5 ?side6 ?side7 ?side8 A11.out).mono ?_); (case side1 => repeat (first | exact (Kd.C_below HR0_3.out HB.out) | (with_reducible refine Kd.C_alloc ?_ _) | (with_reducible refine Kd.C_drewN ?_ _) | (with_reducible refine Kd.C_drew ?_))); (case side2 => exact HC0_3.out); (case side3 => repeat (first | exact (Kd.C_below HR0_4.out HB.out) | (with_reducible refine Kd.C_alloc ?_ _) | (with_reducible refine Kd.C_drewN ?_ _) | (with_reducible refine Kd.C_drew ?_))); (case side4 => exact HC0_4.out); (case side5 => repeat (first | exact (Kd.C_below HR1.out HB.out) | (with_reducible refine Kd.C_alloc ?_ _) | (with_reducible refine Kd.C_drewN ?_ _) | (with_reducible refine Kd.C_drew ?_))); (case side6 => exact HC1.out); (case side7 => repeat (first | exact (Kd.V_reads' HO2_0.out).2.2 | (with_reducible refine Kd.C_alloc ?_ _) | (with_reducible refine Kd.C_drewN ?_ _) | (with_reducible refine Kd.C_drew ?_))); (case side8 => exact (Kd.V_reads' HO2_0.out).2.1); rintro e w17 ⟨rfl, hb⟩; refine ⟨_, rfl, ?_⟩; have n0_ := Aside0.mk (Kd.V_below (by (with_reducible repeat (first | apply Kd.V_alloc | apply Kd.V_drewN | apply Kd.V_drew)); exact HO2_0.out) hb); have n1_ := Aside0.mk (blk_below (g := gb349) (o := .cells #[.int .i64 a0_0, .int .i64 a0_1, .int .i64 a0_2, .slice A0_3 l0_3.length c0_3, .slice A0_4 l0_4.length c0_4] 24 (0, 0)) (by (with_reducible repeat (first | refine blk_drewN ?_ _ | refine blk_drew ?_ | refine blk_alloc ?_ _)); exact BK349.out) hb); have n2_ := Aside0.mk (blk_below (g := gb350) (o := .cells #[.slice A2_0 l2_0.length c2_0, .int .i64 a2_1] 27 (0, 0)) (by (with_reducible repeat (first | refine blk_drewN ?_ _ | refine blk_drew ?_ | refine blk_alloc ?_ _)); exact BK350.out) hb); have n3_ := Aside0.mk (below_step (by repeat (first | (with_reducible first | exact HB.out | apply below_alloc | apply pw_below_drewN | apply below_drew1 | refine below_set ?_ GE349.out | refine below_set ?_ GE350.out) | exact HB.out)) hb); clear HO2_0; clear BK349; clear BK350; clear HB; have HO2_0 := n0_; have BK349 := n1_; have BK350 := n2_; have HB := n3_; clear n0_ n1_ n2_ n3_; (try clear hb); (try clear hb2); (try clear hk); (try clear hi)))
    go_meet
    case rel => exact ⟨_, (true), (by first | rfl | (simp; done) | (simp [*]; done)), H', ⟨by first | omega | exact Nat.le_refl _⟩, ⟨by (with_reducible repeat (first | apply Kd.V_alloc | apply Kd.V_drewN | apply Kd.V_drew)); exact Kd.V_mono HO2_0.out (fun _ hk => ⟨hk.1.1, ⟨hk.1.2, hk.2⟩⟩)⟩, ⟨by (with_reducible repeat (first | refine blk_drewN ?_ _ | refine blk_drew ?_ | refine blk_alloc ?_ _)); exact BK349.out⟩, ⟨by (with_reducible repeat (first | refine blk_drewN ?_ _ | refine blk_drew ?_ | refine blk_alloc ?_ _)); exact BK350.out⟩, ⟨by repeat (first | (with_reducible first | exact HB.out | apply below_alloc | apply pw_below_drewN | apply below_drew1 | refine below_set ?_ GE349.out | refine below_set ?_ GE350.out) | exact HB.out)⟩⟩
   ·rw [if_neg c13] at H
    have c13b0 : decide (9 < (l1.length : Int)) = false := decide_eq_false c13
    have c13b1 : decide (9 < l1.length) = false := decide_eq_false (by omega)
    clear c13
    (first | rw [c13b0] | (simp only [i64_w, i32_w]; rw [c13b0]) | skip)
    by_cases c18 : (l4.length : Int) > 50
    ·rw [if_pos c18] at H
     have c18b0 : decide (50 < (l4.length : Int)) = true := decide_eq_true c18
     have c18b1 : decide (50 < l4.length) = true := decide_eq_true (by omega)
     clear c18
     have H' := Aside0.mk H
     clear H
     have hnb19 := NB349_350.out
     have hnc19 := NB350_349.out
     have hcz20_0 : w10.cell? ⟨gb349, 0, none⟩ = some (.int .i64 a0_0) := (blk_cell BK349.out 0).trans rfl
     have hcz20_1 : w10.cell? ⟨gb349, 1, none⟩ = some (.int .i64 a0_1) := (blk_cell BK349.out 1).trans rfl
     have hcz20_2 : w10.cell? ⟨gb349, 2, none⟩ = some (.int .i64 a0_2) := (blk_cell BK349.out 2).trans rfl
     have hcz20_3 : w10.cell? ⟨gb349, 3, none⟩ = some (.slice A0_3 l0_3.length c0_3) := (blk_cell BK349.out 3).trans rfl
     have hcz20_4 : w10.cell? ⟨gb349, 4, none⟩ = some (.slice A0_4 l0_4.length c0_4) := (blk_cell BK349.out 4).trans rfl
     have hfz20_0 := blk_frozen BK349.out 0
     have hfz20_1 := blk_frozen BK349.out 1
     have hfz20_2 := blk_frozen BK349.out 2
     have hfz20_3 := blk_frozen BK349.out 3
     have hfz20_4 := blk_frozen BK349.out 4
     have hcz21_0 : w10.cell? ⟨gb350, 0, none⟩ = some (.slice A2_0 l2_0.length c2_0) := (blk_cell BK350.out 0).trans rfl
     have hcz21_1 : w10.cell? ⟨gb350, 1, none⟩ = some (.int .i64 a2_1) := (blk_cell BK350.out 1).trans rfl
     have hfz21_0 := blk_frozen BK350.out 0
     have hfz21_1 := blk_frozen BK350.out 1
     go_wp2_with (first | ((with_reducible refine gate_callee (f := 15) rfl ?_); refine goesL_ (some 23) rfl rfl Try.func15 (by kernel_rfl) rfl #[.agg #[.int .i64 a0_0, .int .i64 a0_1, .int .i64 a0_2, .slice A0_3 l0_3.length c0_3, .slice A0_4 l0_4.length c0_4], .slice A1 l1.length c1, .agg #[.slice A2_0 l2_0.length c2_0, .int .i64 a2_1]] rfl (by (try simp only [List.map_toArray, List.map_cons, List.map_nil]); first | done | rfl | (simp only [List.length_drop, List.length_take]; rfl)) ?_; (with_reducible refine (taquinlaw26_fair.calls k a0_0 a0_1 a0_2 _ _ l0_3 _ _ l0_4 _ _ l1 _ _ l2_0 a2_1 true _ ?side1 ?side2 ?side3 ?side4 ?side5 ?side6 ?side7 ?side8 A11.out).mono ?_); (case side1 => repeat (first | exact (Kd.C_below HR0_3.out HB.out) | (with_reducible refine Kd.C_alloc ?_ _) | (with_reducible refine Kd.C_drewN ?_ _) | (with_reducible refine Kd.C_drew ?_))); (case side2 => exact HC0_3.out); (case side3 => repeat (first | exact (Kd.C_below HR0_4.out HB.out) | (with_reducible refine Kd.C_alloc ?_ _) | (with_reducible refine Kd.C_drewN ?_ _) | (with_reducible refine Kd.C_drew ?_))); (case side4 => exact HC0_4.out); (case side5 => repeat (first | exact (Kd.C_below HR1.out HB.out) | (with_reducible refine Kd.C_alloc ?_ _) | (with_reducible refine Kd.C_drewN ?_ _) | (with_reducible refine Kd.C_drew ?_))); (case side6 => exact HC1.out); (case side7 => repeat (first | exact (Kd.V_reads' HO2_0.out).2.2 | (with_reducible refine Kd.C_alloc ?_ _) | (with_reducible refine Kd.C_drewN ?_ _) | (with_reducible refine Kd.C_drew ?_))); (case side8 => exact (Kd.V_reads' HO2_0.out).2.1); rintro e w22 ⟨rfl, hb⟩; refine ⟨_, rfl, ?_⟩; have n0_ := Aside0.mk (Kd.V_below (by (with_reducible repeat (first | apply Kd.V_alloc | apply Kd.V_drewN | apply Kd.V_drew)); exact HO2_0.out) hb); have n1_ := Aside0.mk (blk_below (g := gb349) (o := .cells #[.int .i64 a0_0, .int .i64 a0_1, .int .i64 a0_2, .slice A0_3 l0_3.length c0_3, .slice A0_4 l0_4.length c0_4] 24 (0, 0)) (by (with_reducible repeat (first | refine blk_drewN ?_ _ | refine blk_drew ?_ | refine blk_alloc ?_ _)); exact BK349.out) hb); have n2_ := Aside0.mk (blk_below (g := gb350) (o := .cells #[.slice A2_0 l2_0.length c2_0, .int .i64 a2_1] 27 (0, 0)) (by (with_reducible repeat (first | refine blk_drewN ?_ _ | refine blk_drew ?_ | refine blk_alloc ?_ _)); exact BK350.out) hb); have n3_ := Aside0.mk (below_step (by repeat (first | (with_reducible first | exact HB.out | apply below_alloc | apply pw_below_drewN | apply below_drew1 | refine below_set ?_ GE349.out | refine below_set ?_ GE350.out) | exact HB.out)) hb); clear HO2_0; clear BK349; clear BK350; clear HB; have HO2_0 := n0_; have BK349 := n1_; have BK350 := n2_; have HB := n3_; clear n0_ n1_ n2_ n3_; (try clear hb); (try clear hb2); (try clear hk); (try clear hi)))
     go_meet
     case rel => exact ⟨_, (true), (by first | rfl | (simp; done) | (simp [*]; done)), H', ⟨by first | omega | exact Nat.le_refl _⟩, ⟨by (with_reducible repeat (first | apply Kd.V_alloc | apply Kd.V_drewN | apply Kd.V_drew)); exact Kd.V_mono HO2_0.out (fun _ hk => ⟨hk.1.1, ⟨hk.1.2, hk.2⟩⟩)⟩, ⟨by (with_reducible repeat (first | refine blk_drewN ?_ _ | refine blk_drew ?_ | refine blk_alloc ?_ _)); exact BK349.out⟩, ⟨by (with_reducible repeat (first | refine blk_drewN ?_ _ | refine blk_drew ?_ | refine blk_alloc ?_ _)); exact BK350.out⟩, ⟨by repeat (first | (with_reducible first | exact HB.out | apply below_alloc | apply pw_below_drewN | apply below_drew1 | refine below_set ?_ GE349.out | refine below_set ?_ GE350.out) | exact HB.out)⟩⟩
    ·rw [if_neg c18] at H
     have c18b0 : decide (50 < (l4.length : Int)) = false := decide_eq_false c18
     have c18b1 : decide (50 < l4.length) = false := decide_eq_false (by omega)
     clear c18
     replace H := Option.bind_eq_some_iff.mp H
     obtain ⟨t353, A230, H⟩ := H
     replace H : (taquinlaw26_PuzzleBack.j0 k l1 a3 l4 t351 (!t353) a0_0 a0_1 a0_2 l0_3 l0_4 l2_0 a2_1) = some r := H
     have A23 := Aside0.mk A230
     clear A230
     have H' := Aside0.mk H
     clear H
     have hnb24 := NB349_350.out
     have hnc24 := NB350_349.out
     have hcz25_0 : w10.cell? ⟨gb349, 0, none⟩ = some (.int .i64 a0_0) := (blk_cell BK349.out 0).trans rfl
     have hcz25_1 : w10.cell? ⟨gb349, 1, none⟩ = some (.int .i64 a0_1) := (blk_cell BK349.out 1).trans rfl
     have hcz25_2 : w10.cell? ⟨gb349, 2, none⟩ = some (.int .i64 a0_2) := (blk_cell BK349.out 2).trans rfl
     have hcz25_3 : w10.cell? ⟨gb349, 3, none⟩ = some (.slice A0_3 l0_3.length c0_3) := (blk_cell BK349.out 3).trans rfl
     have hcz25_4 : w10.cell? ⟨gb349, 4, none⟩ = some (.slice A0_4 l0_4.length c0_4) := (blk_cell BK349.out 4).trans rfl
     have hfz25_0 := blk_frozen BK349.out 0
     have hfz25_1 := blk_frozen BK349.out 1
     have hfz25_2 := blk_frozen BK349.out 2
     have hfz25_3 := blk_frozen BK349.out 3
     have hfz25_4 := blk_frozen BK349.out 4
     have hcz26_0 : w10.cell? ⟨gb350, 0, none⟩ = some (.slice A2_0 l2_0.length c2_0) := (blk_cell BK350.out 0).trans rfl
     have hcz26_1 : w10.cell? ⟨gb350, 1, none⟩ = some (.int .i64 a2_1) := (blk_cell BK350.out 1).trans rfl
     have hfz26_0 := blk_frozen BK350.out 0
     have hfz26_1 := blk_frozen BK350.out 1
     go_wp2_with (first | ((with_reducible refine gate_callee (f := 15) rfl ?_); refine goesL_ (some 23) rfl rfl Try.func15 (by kernel_rfl) rfl #[.agg #[.int .i64 a0_0, .int .i64 a0_1, .int .i64 a0_2, .slice A0_3 l0_3.length c0_3, .slice A0_4 l0_4.length c0_4], .slice A1 l1.length c1, .agg #[.slice A2_0 l2_0.length c2_0, .int .i64 a2_1]] rfl (by (try simp only [List.map_toArray, List.map_cons, List.map_nil]); first | done | rfl | (simp only [List.length_drop, List.length_take]; rfl)) ?_; (with_reducible refine (taquinlaw26_fair.calls k a0_0 a0_1 a0_2 _ _ l0_3 _ _ l0_4 _ _ l1 _ _ l2_0 a2_1 true _ ?side1 ?side2 ?side3 ?side4 ?side5 ?side6 ?side7 ?side8 A11.out).mono ?_); (case side1 => repeat (first | exact (Kd.C_below HR0_3.out HB.out) | (with_reducible refine Kd.C_alloc ?_ _) | (with_reducible refine Kd.C_drewN ?_ _) | (with_reducible refine Kd.C_drew ?_))); (case side2 => exact HC0_3.out); (case side3 => repeat (first | exact (Kd.C_below HR0_4.out HB.out) | (with_reducible refine Kd.C_alloc ?_ _) | (with_reducible refine Kd.C_drewN ?_ _) | (with_reducible refine Kd.C_drew ?_))); (case side4 => exact HC0_4.out); (case side5 => repeat (first | exact (Kd.C_below HR1.out HB.out) | (with_reducible refine Kd.C_alloc ?_ _) | (with_reducible refine Kd.C_drewN ?_ _) | (with_reducible refine Kd.C_drew ?_))); (case side6 => exact HC1.out); (case side7 => repeat (first | exact (Kd.V_reads' HO2_0.out).2.2 | (with_reducible refine Kd.C_alloc ?_ _) | (with_reducible refine Kd.C_drewN ?_ _) | (with_reducible refine Kd.C_drew ?_))); (case side8 => exact (Kd.V_reads' HO2_0.out).2.1); rintro e w27 ⟨rfl, hb⟩; refine ⟨_, rfl, ?_⟩; have n0_ := Aside0.mk (Kd.V_below (by (with_reducible repeat (first | apply Kd.V_alloc | apply Kd.V_drewN | apply Kd.V_drew)); exact HO2_0.out) hb); have n1_ := Aside0.mk (blk_below (g := gb349) (o := .cells #[.int .i64 a0_0, .int .i64 a0_1, .int .i64 a0_2, .slice A0_3 l0_3.length c0_3, .slice A0_4 l0_4.length c0_4] 24 (0, 0)) (by (with_reducible repeat (first | refine blk_drewN ?_ _ | refine blk_drew ?_ | refine blk_alloc ?_ _)); exact BK349.out) hb); have n2_ := Aside0.mk (blk_below (g := gb350) (o := .cells #[.slice A2_0 l2_0.length c2_0, .int .i64 a2_1] 27 (0, 0)) (by (with_reducible repeat (first | refine blk_drewN ?_ _ | refine blk_drew ?_ | refine blk_alloc ?_ _)); exact BK350.out) hb); have n3_ := Aside0.mk (below_step (by repeat (first | (with_reducible first | exact HB.out | apply below_alloc | apply pw_below_drewN | apply below_drew1 | refine below_set ?_ GE349.out | refine below_set ?_ GE350.out) | exact HB.out)) hb); clear HO2_0; clear BK349; clear BK350; clear HB; have HO2_0 := n0_; have BK349 := n1_; have BK350 := n2_; have HB := n3_; clear n0_ n1_ n2_ n3_; (try clear hb); (try clear hb2); (try clear hk); (try clear hi); have hcz28_0 : w27.cell? ⟨gb349, 0, none⟩ = some (.int .i64 a0_0) := (blk_cell BK349.out 0).trans rfl; have hcz28_1 : w27.cell? ⟨gb349, 1, none⟩ = some (.int .i64 a0_1) := (blk_cell BK349.out 1).trans rfl; have hcz28_2 : w27.cell? ⟨gb349, 2, none⟩ = some (.int .i64 a0_2) := (blk_cell BK349.out 2).trans rfl; have hcz28_3 : w27.cell? ⟨gb349, 3, none⟩ = some (.slice A0_3 l0_3.length c0_3) := (blk_cell BK349.out 3).trans rfl; have hcz28_4 : w27.cell? ⟨gb349, 4, none⟩ = some (.slice A0_4 l0_4.length c0_4) := (blk_cell BK349.out 4).trans rfl; have hfz28_0 := blk_frozen BK349.out 0; have hfz28_1 := blk_frozen BK349.out 1; have hfz28_2 := blk_frozen BK349.out 2; have hfz28_3 := blk_frozen BK349.out 3; have hfz28_4 := blk_frozen BK349.out 4) | (go_at_call 33; (with_reducible refine (taquinlaw26_open.calls k a0_0 a0_1 a0_2 _ _ l0_3 _ _ l0_4 _ _ l1 t353 _ ?side1 ?side2 ?side3 ?side4 ?side5 ?side6 A23.out).mono ?_); (case side1 => repeat (first | exact (Kd.C_below HR0_3.out HB.out) | (with_reducible refine Kd.C_alloc ?_ _) | (with_reducible refine Kd.C_drewN ?_ _) | (with_reducible refine Kd.C_drew ?_))); (case side2 => exact HC0_3.out); (case side3 => repeat (first | exact (Kd.C_below HR0_4.out HB.out) | (with_reducible refine Kd.C_alloc ?_ _) | (with_reducible refine Kd.C_drewN ?_ _) | (with_reducible refine Kd.C_drew ?_))); (case side4 => exact HC0_4.out); (case side5 => repeat (first | exact (Kd.C_below HR1.out HB.out) | (with_reducible refine Kd.C_alloc ?_ _) | (with_reducible refine Kd.C_drewN ?_ _) | (with_reducible refine Kd.C_drew ?_))); (case side6 => exact HC1.out); rintro e w29 ⟨rfl, hb⟩; have n0_ := Aside0.mk (Kd.V_below (by (with_reducible repeat (first | apply Kd.V_alloc | apply Kd.V_drewN | apply Kd.V_drew)); exact HO2_0.out) hb); have n1_ := Aside0.mk (blk_below (g := gb349) (o := .cells #[.int .i64 a0_0, .int .i64 a0_1, .int .i64 a0_2, .slice A0_3 l0_3.length c0_3, .slice A0_4 l0_4.length c0_4] 24 (0, 0)) (by (with_reducible repeat (first | refine blk_drewN ?_ _ | refine blk_drew ?_ | refine blk_alloc ?_ _)); exact BK349.out) hb); have n2_ := Aside0.mk (blk_below (g := gb350) (o := .cells #[.slice A2_0 l2_0.length c2_0, .int .i64 a2_1] 27 (0, 0)) (by (with_reducible repeat (first | refine blk_drewN ?_ _ | refine blk_drew ?_ | refine blk_alloc ?_ _)); exact BK350.out) hb); have n3_ := Aside0.mk (below_step (by repeat (first | (with_reducible first | exact HB.out | apply below_alloc | apply pw_below_drewN | apply below_drew1 | refine below_set ?_ GE349.out | refine below_set ?_ GE350.out) | exact HB.out)) hb); clear HO2_0; clear BK349; clear BK350; clear HB; have HO2_0 := n0_; have BK349 := n1_; have BK350 := n2_; have HB := n3_; clear n0_ n1_ n2_ n3_; (try clear hb); (try clear hb2); (try clear hk); (try clear hi)))
     go_meet
     case rel => exact ⟨_, (!t353), (by first | rfl | (simp; done) | (simp [*]; done)), H', ⟨by first | omega | exact Nat.le_refl _⟩, ⟨by (with_reducible repeat (first | apply Kd.V_alloc | apply Kd.V_drewN | apply Kd.V_drew)); exact Kd.V_mono HO2_0.out (fun _ hk => ⟨hk.1.1, ⟨hk.1.2, hk.2⟩⟩)⟩, ⟨by (with_reducible repeat (first | refine blk_drewN ?_ _ | refine blk_drew ?_ | refine blk_alloc ?_ _)); exact BK349.out⟩, ⟨by (with_reducible repeat (first | refine blk_drewN ?_ _ | refine blk_drew ?_ | refine blk_alloc ?_ _)); exact BK350.out⟩, ⟨by repeat (first | (with_reducible first | exact HB.out | apply below_alloc | apply pw_below_drewN | apply below_drew1 | refine below_set ?_ GE349.out | refine below_set ?_ GE350.out) | exact HB.out)⟩⟩
  ·replace c12 := Bool.eq_false_iff.mpr c12
   subst c12
   have H1 : (taquinlaw26_PuzzleBack.j0 k l1 a3 l4 t351 true a0_0 a0_1 a0_2 l0_3 l0_4 l2_0 a2_1) = some r := by rw [if_neg (show ¬ (false = true) by decide)] at H; exact H
   clear H
   have H := H1
   clear H1
   have H' := Aside0.mk H
   clear H
   have hnb30 := NB349_350.out
   have hnc30 := NB350_349.out
   have hcz31_0 : w10.cell? ⟨gb349, 0, none⟩ = some (.int .i64 a0_0) := (blk_cell BK349.out 0).trans rfl
   have hcz31_1 : w10.cell? ⟨gb349, 1, none⟩ = some (.int .i64 a0_1) := (blk_cell BK349.out 1).trans rfl
   have hcz31_2 : w10.cell? ⟨gb349, 2, none⟩ = some (.int .i64 a0_2) := (blk_cell BK349.out 2).trans rfl
   have hcz31_3 : w10.cell? ⟨gb349, 3, none⟩ = some (.slice A0_3 l0_3.length c0_3) := (blk_cell BK349.out 3).trans rfl
   have hcz31_4 : w10.cell? ⟨gb349, 4, none⟩ = some (.slice A0_4 l0_4.length c0_4) := (blk_cell BK349.out 4).trans rfl
   have hfz31_0 := blk_frozen BK349.out 0
   have hfz31_1 := blk_frozen BK349.out 1
   have hfz31_2 := blk_frozen BK349.out 2
   have hfz31_3 := blk_frozen BK349.out 3
   have hfz31_4 := blk_frozen BK349.out 4
   have hcz32_0 : w10.cell? ⟨gb350, 0, none⟩ = some (.slice A2_0 l2_0.length c2_0) := (blk_cell BK350.out 0).trans rfl
   have hcz32_1 : w10.cell? ⟨gb350, 1, none⟩ = some (.int .i64 a2_1) := (blk_cell BK350.out 1).trans rfl
   have hfz32_0 := blk_frozen BK350.out 0
   have hfz32_1 := blk_frozen BK350.out 1
   go_wp2_with (first | ((with_reducible refine gate_callee (f := 15) rfl ?_); refine goesL_ (some 23) rfl rfl Try.func15 (by kernel_rfl) rfl #[.agg #[.int .i64 a0_0, .int .i64 a0_1, .int .i64 a0_2, .slice A0_3 l0_3.length c0_3, .slice A0_4 l0_4.length c0_4], .slice A1 l1.length c1, .agg #[.slice A2_0 l2_0.length c2_0, .int .i64 a2_1]] rfl (by (try simp only [List.map_toArray, List.map_cons, List.map_nil]); first | done | rfl | (simp only [List.length_drop, List.length_take]; rfl)) ?_; (with_reducible refine (taquinlaw26_fair.calls k a0_0 a0_1 a0_2 _ _ l0_3 _ _ l0_4 _ _ l1 _ _ l2_0 a2_1 false _ ?side1 ?side2 ?side3 ?side4 ?side5 ?side6 ?side7 ?side8 A11.out).mono ?_); (case side1 => repeat (first | exact (Kd.C_below HR0_3.out HB.out) | (with_reducible refine Kd.C_alloc ?_ _) | (with_reducible refine Kd.C_drewN ?_ _) | (with_reducible refine Kd.C_drew ?_))); (case side2 => exact HC0_3.out); (case side3 => repeat (first | exact (Kd.C_below HR0_4.out HB.out) | (with_reducible refine Kd.C_alloc ?_ _) | (with_reducible refine Kd.C_drewN ?_ _) | (with_reducible refine Kd.C_drew ?_))); (case side4 => exact HC0_4.out); (case side5 => repeat (first | exact (Kd.C_below HR1.out HB.out) | (with_reducible refine Kd.C_alloc ?_ _) | (with_reducible refine Kd.C_drewN ?_ _) | (with_reducible refine Kd.C_drew ?_))); (case side6 => exact HC1.out); (case side7 => repeat (first | exact (Kd.V_reads' HO2_0.out).2.2 | (with_reducible refine Kd.C_alloc ?_ _) | (with_reducible refine Kd.C_drewN ?_ _) | (with_reducible refine Kd.C_drew ?_))); (case side8 => exact (Kd.V_reads' HO2_0.out).2.1); rintro e w33 ⟨rfl, hb⟩; refine ⟨_, rfl, ?_⟩; have n0_ := Aside0.mk (Kd.V_below (by (with_reducible repeat (first | apply Kd.V_alloc | apply Kd.V_drewN | apply Kd.V_drew)); exact HO2_0.out) hb); have n1_ := Aside0.mk (blk_below (g := gb349) (o := .cells #[.int .i64 a0_0, .int .i64 a0_1, .int .i64 a0_2, .slice A0_3 l0_3.length c0_3, .slice A0_4 l0_4.length c0_4] 24 (0, 0)) (by (with_reducible repeat (first | refine blk_drewN ?_ _ | refine blk_drew ?_ | refine blk_alloc ?_ _)); exact BK349.out) hb); have n2_ := Aside0.mk (blk_below (g := gb350) (o := .cells #[.slice A2_0 l2_0.length c2_0, .int .i64 a2_1] 27 (0, 0)) (by (with_reducible repeat (first | refine blk_drewN ?_ _ | refine blk_drew ?_ | refine blk_alloc ?_ _)); exact BK350.out) hb); have n3_ := Aside0.mk (below_step (by repeat (first | (with_reducible first | exact HB.out | apply below_alloc | apply pw_below_drewN | apply below_drew1 | refine below_set ?_ GE349.out | refine below_set ?_ GE350.out) | exact HB.out)) hb); clear HO2_0; clear BK349; clear BK350; clear HB; have HO2_0 := n0_; have BK349 := n1_; have BK350 := n2_; have HB := n3_; clear n0_ n1_ n2_ n3_; (try clear hb); (try clear hb2); (try clear hk); (try clear hi)))
   go_meet
   case rel => exact ⟨_, (true), (by first | rfl | (simp; done) | (simp [*]; done)), H', ⟨by first | omega | exact Nat.le_refl _⟩, ⟨by (with_reducible repeat (first | apply Kd.V_alloc | apply Kd.V_drewN | apply Kd.V_drew)); exact Kd.V_mono HO2_0.out (fun _ hk => ⟨hk.1.1, ⟨hk.1.2, hk.2⟩⟩)⟩, ⟨by (with_reducible repeat (first | refine blk_drewN ?_ _ | refine blk_drew ?_ | refine blk_alloc ?_ _)); exact BK349.out⟩, ⟨by (with_reducible repeat (first | refine blk_drewN ?_ _ | refine blk_drew ?_ | refine blk_alloc ?_ _)); exact BK350.out⟩, ⟨by repeat (first | (with_reducible first | exact HB.out | apply below_alloc | apply pw_below_drewN | apply below_drew1 | refine below_set ?_ GE349.out | refine below_set ?_ GE350.out) | exact HB.out)⟩⟩
 case rest =>
  clear HC7
  try clear c1
  try clear c2
  try clear p2
  try clear c3
  try clear c4
  try clear c7
  try clear c12
  try clear c13
  try clear c13b0
  try clear c13b1
  try clear c14
  try clear c15
  try clear c18
  try clear c18b0
  try clear c18b1
  try clear c19
  try clear c24
  try clear c30
  try clear hcz15_0
  try clear hcz15_1
  try clear hcz15_2
  try clear hcz15_3
  try clear hcz15_4
  try clear hcz16_0
  try clear hcz16_1
  try clear hcz20_0
  try clear hcz20_1
  try clear hcz20_2
  try clear hcz20_3
  try clear hcz20_4
  try clear hcz21_0
  try clear hcz21_1
  try clear hcz25_0
  try clear hcz25_1
  try clear hcz25_2
  try clear hcz25_3
  try clear hcz25_4
  try clear hcz26_0
  try clear hcz26_1
  try clear hcz28_0
  try clear hcz28_1
  try clear hcz28_2
  try clear hcz28_3
  try clear hcz28_4
  try clear hcz31_0
  try clear hcz31_1
  try clear hcz31_2
  try clear hcz31_3
  try clear hcz31_4
  try clear hcz32_0
  try clear hcz32_1
  try clear hfz15_0
  try clear hfz15_1
  try clear hfz15_2
  try clear hfz15_3
  try clear hfz15_4
  try clear hfz16_0
  try clear hfz16_1
  try clear hfz20_0
  try clear hfz20_1
  try clear hfz20_2
  try clear hfz20_3
  try clear hfz20_4
  try clear hfz21_0
  try clear hfz21_1
  try clear hfz25_0
  try clear hfz25_1
  try clear hfz25_2
  try clear hfz25_3
  try clear hfz25_4
  try clear hfz26_0
  try clear hfz26_1
  try clear hfz28_0
  try clear hfz28_1
  try clear hfz28_2
  try clear hfz28_3
  try clear hfz28_4
  try clear hfz31_0
  try clear hfz31_1
  try clear hfz31_2
  try clear hfz31_3
  try clear hfz31_4
  try clear hfz32_0
  try clear hfz32_1
  obtain ⟨kq, x40_6, rfl, HA, HJ6, HO_351000, BK349, BK350, HB⟩ := hcut
  cases kq with
  | zero => exact absurd HA.out (by simp [taquinlaw26_PuzzleBack.j0])
  | succ kj6 =>
   have H := HA.out
   clear HA
   simp only [taquinlaw26_PuzzleBack.j0] at H
   by_cases c34 : x40_6 = true
   ·subst c34
    have H1 : (some t351) = some r := by rw [if_pos rfl] at H; exact H
    clear H
    have H := H1
    clear H1
    obtain rfl := Option.some.inj H
    go_wp2
    go_ret
    exact ⟨by first | rfl | (simp [errW_none, errW_some] <;> rfl) | (simp [*, errW_none, errW_some] <;> rfl), by repeat (first | (with_reducible first | exact HB.out | apply below_alloc | apply pw_below_drewN | apply below_drew1 | refine below_set ?_ GE349.out | refine below_set ?_ GE350.out) | exact HB.out)⟩
   ·replace c34 := Bool.eq_false_iff.mpr c34
    subst c34
    have H1 : ((puzzle_Least.f kj6 a0_0 a0_1 a0_2 l0_3 l0_4 l1 l2_0 a2_1 a3).bind fun bt354 => (if bt354.2 = 3 then (some t351) else (taquinlaw26_PuzzleBack.l0 kj6 l1 a3 l4 t351 bt354.1 bt354.2 0 0 a0_0 a0_1 a0_2 l0_3 l0_4 l2_0 a2_1))) = some r := by rw [if_neg (show ¬ (false = true) by decide)] at H; exact H
    clear H
    have H := H1
    clear H1
    replace H := Option.bind_eq_some_iff.mp H
    obtain ⟨⟨t354, t355⟩, A350, H⟩ := H
    replace H : (if t355 = 3 then (some t351) else (taquinlaw26_PuzzleBack.l0 kj6 l1 a3 l4 t351 t354 t355 0 0 a0_0 a0_1 a0_2 l0_3 l0_4 l2_0 a2_1)) = some r := H
    have A35 := Aside0.mk A350
    clear A350
    by_cases c36 : t355 = 3
    ·rw [if_pos c36] at H
     have c36b0 : (t355 == 3) = true := beq_iff_eq.mpr c36
     have c36b1 : (t355 != 3) = false := bne_eq_false_iff_eq.mpr c36
     clear c36
     obtain rfl := Option.some.inj H
     have hnb37 := NB349_350.out
     have hnc37 := NB350_349.out
     have hcz38_0 : wc.cell? ⟨gb349, 0, none⟩ = some (.int .i64 a0_0) := (blk_cell BK349.out 0).trans rfl
     have hcz38_1 : wc.cell? ⟨gb349, 1, none⟩ = some (.int .i64 a0_1) := (blk_cell BK349.out 1).trans rfl
     have hcz38_2 : wc.cell? ⟨gb349, 2, none⟩ = some (.int .i64 a0_2) := (blk_cell BK349.out 2).trans rfl
     have hcz38_3 : wc.cell? ⟨gb349, 3, none⟩ = some (.slice A0_3 l0_3.length c0_3) := (blk_cell BK349.out 3).trans rfl
     have hcz38_4 : wc.cell? ⟨gb349, 4, none⟩ = some (.slice A0_4 l0_4.length c0_4) := (blk_cell BK349.out 4).trans rfl
     have hfz38_0 := blk_frozen BK349.out 0
     have hfz38_1 := blk_frozen BK349.out 1
     have hfz38_2 := blk_frozen BK349.out 2
     have hfz38_3 := blk_frozen BK349.out 3
     have hfz38_4 := blk_frozen BK349.out 4
     have hcz39_0 : wc.cell? ⟨gb350, 0, none⟩ = some (.slice A2_0 l2_0.length c2_0) := (blk_cell BK350.out 0).trans rfl
     have hcz39_1 : wc.cell? ⟨gb350, 1, none⟩ = some (.int .i64 a2_1) := (blk_cell BK350.out 1).trans rfl
     have hfz39_0 := blk_frozen BK350.out 0
     have hfz39_1 := blk_frozen BK350.out 1
     go_wp2_with (first | ((with_reducible refine gate_callee (f := 18) rfl ?_); refine goesL_ (some 47) rfl rfl Try.func18 (by kernel_rfl) rfl #[.agg #[.int .i64 a0_0, .int .i64 a0_1, .int .i64 a0_2, .slice A0_3 l0_3.length c0_3, .slice A0_4 l0_4.length c0_4], .slice A1 l1.length c1, .agg #[.slice A2_0 l2_0.length c2_0, .int .i64 a2_1], .int .i64 a3] rfl (by (try simp only [List.map_toArray, List.map_cons, List.map_nil]); first | done | rfl | (simp only [List.length_drop, List.length_take]; rfl)) ?_; (with_reducible refine (puzzle_Least.calls kj6 a0_0 a0_1 a0_2 _ _ l0_3 _ _ l0_4 _ _ l1 _ _ l2_0 a2_1 a3 t354 t355 _ ?side1 ?side2 ?side3 ?side4 ?side5 ?side6 ?side7 ?side8 A35.out).mono ?_); (case side1 => repeat (first | exact (Kd.C_below HR0_3.out HB.out) | (with_reducible refine Kd.C_alloc ?_ _) | (with_reducible refine Kd.C_drewN ?_ _) | (with_reducible refine Kd.C_drew ?_))); (case side2 => exact HC0_3.out); (case side3 => repeat (first | exact (Kd.C_below HR0_4.out HB.out) | (with_reducible refine Kd.C_alloc ?_ _) | (with_reducible refine Kd.C_drewN ?_ _) | (with_reducible refine Kd.C_drew ?_))); (case side4 => exact HC0_4.out); (case side5 => repeat (first | exact (Kd.C_below HR1.out HB.out) | (with_reducible refine Kd.C_alloc ?_ _) | (with_reducible refine Kd.C_drewN ?_ _) | (with_reducible refine Kd.C_drew ?_))); (case side6 => exact HC1.out); (case side7 => repeat (first | exact (Kd.V_reads' HO_351000.out).2.2 | (with_reducible refine Kd.C_alloc ?_ _) | (with_reducible refine Kd.C_drewN ?_ _) | (with_reducible refine Kd.C_drew ?_))); (case side8 => exact (Kd.V_reads' HO_351000.out).2.1); rintro e w40 ⟨rfl, hb⟩; refine ⟨_, rfl, ?_⟩; have n0_ := Aside0.mk (Kd.V_below (by (with_reducible repeat (first | apply Kd.V_alloc | apply Kd.V_drewN | apply Kd.V_drew)); exact HO_351000.out) hb); have n1_ := Aside0.mk (blk_below (g := gb349) (o := .cells #[.int .i64 a0_0, .int .i64 a0_1, .int .i64 a0_2, .slice A0_3 l0_3.length c0_3, .slice A0_4 l0_4.length c0_4] 24 (0, 0)) (by (with_reducible repeat (first | refine blk_drewN ?_ _ | refine blk_drew ?_ | refine blk_alloc ?_ _)); exact BK349.out) hb); have n2_ := Aside0.mk (blk_below (g := gb350) (o := .cells #[.slice A2_0 l2_0.length c2_0, .int .i64 a2_1] 27 (0, 0)) (by (with_reducible repeat (first | refine blk_drewN ?_ _ | refine blk_drew ?_ | refine blk_alloc ?_ _)); exact BK350.out) hb); have n3_ := Aside0.mk (below_step (by repeat (first | (with_reducible first | exact HB.out | apply below_alloc | apply pw_below_drewN | apply below_drew1 | refine below_set ?_ GE349.out | refine below_set ?_ GE350.out) | exact HB.out)) hb); clear HO_351000; clear BK349; clear BK350; clear HB; have HO_351000 := n0_; have BK349 := n1_; have BK350 := n2_; have HB := n3_; clear n0_ n1_ n2_ n3_; (try clear hb); (try clear hb2); (try clear hk); (try clear hi)))
     go_ret
     exact ⟨by first | rfl | (simp [errW_none, errW_some] <;> rfl) | (simp [*, errW_none, errW_some] <;> rfl), by repeat (first | (with_reducible first | exact HB.out | apply below_alloc | apply pw_below_drewN | apply below_drew1 | refine below_set ?_ GE349.out | refine below_set ?_ GE350.out) | exact HB.out)⟩
    ·rw [if_neg c36] at H
     have c36b0 : (t355 == 3) = false := beq_eq_false_iff_ne.mpr c36
     have c36b1 : (t355 != 3) = true := bne_iff_ne.mpr c36
     have H' := Aside0.mk H
     clear H
     have hnb41 := NB349_350.out
     have hnc41 := NB350_349.out
     have hcz42_0 : wc.cell? ⟨gb349, 0, none⟩ = some (.int .i64 a0_0) := (blk_cell BK349.out 0).trans rfl
     have hcz42_1 : wc.cell? ⟨gb349, 1, none⟩ = some (.int .i64 a0_1) := (blk_cell BK349.out 1).trans rfl
     have hcz42_2 : wc.cell? ⟨gb349, 2, none⟩ = some (.int .i64 a0_2) := (blk_cell BK349.out 2).trans rfl
     have hcz42_3 : wc.cell? ⟨gb349, 3, none⟩ = some (.slice A0_3 l0_3.length c0_3) := (blk_cell BK349.out 3).trans rfl
     have hcz42_4 : wc.cell? ⟨gb349, 4, none⟩ = some (.slice A0_4 l0_4.length c0_4) := (blk_cell BK349.out 4).trans rfl
     have hfz42_0 := blk_frozen BK349.out 0
     have hfz42_1 := blk_frozen BK349.out 1
     have hfz42_2 := blk_frozen BK349.out 2
     have hfz42_3 := blk_frozen BK349.out 3
     have hfz42_4 := blk_frozen BK349.out 4
     have hcz43_0 : wc.cell? ⟨gb350, 0, none⟩ = some (.slice A2_0 l2_0.length c2_0) := (blk_cell BK350.out 0).trans rfl
     have hcz43_1 : wc.cell? ⟨gb350, 1, none⟩ = some (.int .i64 a2_1) := (blk_cell BK350.out 1).trans rfl
     have hfz43_0 := blk_frozen BK350.out 0
     have hfz43_1 := blk_frozen BK350.out 1
     go_wp2_with (first | ((with_reducible refine gate_callee (f := 18) rfl ?_); refine goesL_ (some 47) rfl rfl Try.func18 (by kernel_rfl) rfl #[.agg #[.int .i64 a0_0, .int .i64 a0_1, .int .i64 a0_2, .slice A0_3 l0_3.length c0_3, .slice A0_4 l0_4.length c0_4], .slice A1 l1.length c1, .agg #[.slice A2_0 l2_0.length c2_0, .int .i64 a2_1], .int .i64 a3] rfl (by (try simp only [List.map_toArray, List.map_cons, List.map_nil]); first | done | rfl | (simp only [List.length_drop, List.length_take]; rfl)) ?_; (with_reducible refine (puzzle_Least.calls kj6 a0_0 a0_1 a0_2 _ _ l0_3 _ _ l0_4 _ _ l1 _ _ l2_0 a2_1 a3 t354 t355 _ ?side1 ?side2 ?side3 ?side4 ?side5 ?side6 ?side7 ?side8 A35.out).mono ?_); (case side1 => repeat (first | exact (Kd.C_below HR0_3.out HB.out) | (with_reducible refine Kd.C_alloc ?_ _) | (with_reducible refine Kd.C_drewN ?_ _) | (with_reducible refine Kd.C_drew ?_))); (case side2 => exact HC0_3.out); (case side3 => repeat (first | exact (Kd.C_below HR0_4.out HB.out) | (with_reducible refine Kd.C_alloc ?_ _) | (with_reducible refine Kd.C_drewN ?_ _) | (with_reducible refine Kd.C_drew ?_))); (case side4 => exact HC0_4.out); (case side5 => repeat (first | exact (Kd.C_below HR1.out HB.out) | (with_reducible refine Kd.C_alloc ?_ _) | (with_reducible refine Kd.C_drewN ?_ _) | (with_reducible refine Kd.C_drew ?_))); (case side6 => exact HC1.out); (case side7 => repeat (first | exact (Kd.V_reads' HO_351000.out).2.2 | (with_reducible refine Kd.C_alloc ?_ _) | (with_reducible refine Kd.C_drewN ?_ _) | (with_reducible refine Kd.C_drew ?_))); (case side8 => exact (Kd.V_reads' HO_351000.out).2.1); rintro e w44 ⟨rfl, hb⟩; refine ⟨_, rfl, ?_⟩; have n0_ := Aside0.mk (Kd.V_below (by (with_reducible repeat (first | apply Kd.V_alloc | apply Kd.V_drewN | apply Kd.V_drew)); exact HO_351000.out) hb); have n1_ := Aside0.mk (blk_below (g := gb349) (o := .cells #[.int .i64 a0_0, .int .i64 a0_1, .int .i64 a0_2, .slice A0_3 l0_3.length c0_3, .slice A0_4 l0_4.length c0_4] 24 (0, 0)) (by (with_reducible repeat (first | refine blk_drewN ?_ _ | refine blk_drew ?_ | refine blk_alloc ?_ _)); exact BK349.out) hb); have n2_ := Aside0.mk (blk_below (g := gb350) (o := .cells #[.slice A2_0 l2_0.length c2_0, .int .i64 a2_1] 27 (0, 0)) (by (with_reducible repeat (first | refine blk_drewN ?_ _ | refine blk_drew ?_ | refine blk_alloc ?_ _)); exact BK350.out) hb); have n3_ := Aside0.mk (below_step (by repeat (first | (with_reducible first | exact HB.out | apply below_alloc | apply pw_below_drewN | apply below_drew1 | refine below_set ?_ GE349.out | refine below_set ?_ GE350.out) | exact HB.out)) hb); clear HO_351000; clear BK349; clear BK350; clear HB; have HO_351000 := n0_; have BK349 := n1_; have BK350 := n2_; have HB := n3_; clear n0_ n1_ n2_ n3_; (try clear hb); (try clear hb2); (try clear hk); (try clear hi)))
     go_loopg [14, 15] kj6 (fun kq v14 v15 w' => ∃ (x14_2 : Int) (x15_2 : Int) (x351000_2 : List Bool) (x351001_2 : Int) (u351000 : Value), v14 = .int .i64 x14_2 ∧ v15 = .int .i64 x15_2 ∧ Aside0 (taquinlaw26_PuzzleBack.l0 kq l1 a3 l4 t351 t354 t355 x14_2 x15_2 a0_0 a0_1 a0_2 l0_3 l0_4 x351000_2 x351001_2 = some r) ∧ Aside0 (kq ≤ kj6) ∧ Aside0 (Kd.V Kd.bool 4 w' w.heap.size (fun k_ => (P2_0_ k_ ∨ w.heap.size ≤ k_) ∧ k_ ≠ gb349 ∧ k_ ≠ gb350) u351000 x351000_2) ∧ Aside0 (w'.heap[gb349]? = some (.cells #[.int .i64 a0_0, .int .i64 a0_1, .int .i64 a0_2, (.slice A0_3 l0_3.length c0_3), (.slice A0_4 l0_4.length c0_4)] 24 (0, 0))) ∧ Aside0 (w'.heap[gb350]? = some (.cells #[u351000, .int .i64 x351001_2] 27 (0, 0))) ∧ Aside0 (Below w.heap.size w w'))
     case atStart => exact ⟨(0), (0), (l2_0), (a2_1), (.slice A2_0 l2_0.length c2_0), (by first | rfl | (simp; done) | (simp [*]; done)), (by first | rfl | (simp; done) | (simp [*]; done)), H', ⟨Nat.le_refl _⟩, ⟨by (with_reducible repeat (first | apply Kd.V_alloc | apply Kd.V_drewN | apply Kd.V_drew)); exact HO_351000.out⟩, ⟨by (with_reducible repeat (first | refine blk_drewN ?_ _ | refine blk_drew ?_ | refine blk_alloc ?_ _)); exact BK349.out⟩, ⟨by (with_reducible repeat (first | refine blk_drewN ?_ _ | refine blk_drew ?_ | refine blk_alloc ?_ _)); exact BK350.out⟩, ⟨by repeat (first | (with_reducible first | exact HB.out | apply below_alloc | apply pw_below_drewN | apply below_drew1 | refine below_set ?_ GE349.out | refine below_set ?_ GE350.out) | exact HB.out)⟩⟩
     case round =>
      clear H'
      try clear c1
      try clear c2
      try clear p2
      try clear c3
      try clear c4
      try clear c7
      try clear c12
      try clear c13
      try clear c13b0
      try clear c13b1
      try clear c14
      try clear c15
      try clear c18
      try clear c18b0
      try clear c18b1
      try clear c19
      try clear c24
      try clear c30
      try clear c34
      try clear c36
      try clear c36b0
      try clear c36b1
      try clear c37
      try clear c41
      try clear hcz15_0
      try clear hcz15_1
      try clear hcz15_2
      try clear hcz15_3
      try clear hcz15_4
      try clear hcz16_0
      try clear hcz16_1
      try clear hcz20_0
      try clear hcz20_1
      try clear hcz20_2
      try clear hcz20_3
      try clear hcz20_4
      try clear hcz21_0
      try clear hcz21_1
      try clear hcz25_0
      try clear hcz25_1
      try clear hcz25_2
      try clear hcz25_3
      try clear hcz25_4
      try clear hcz26_0
      try clear hcz26_1
      try clear hcz28_0
      try clear hcz28_1
      try clear hcz28_2
      try clear hcz28_3
      try clear hcz28_4
      try clear hcz31_0
      try clear hcz31_1
      try clear hcz31_2
      try clear hcz31_3
      try clear hcz31_4
      try clear hcz32_0
      try clear hcz32_1
      try clear hcz38_0
      try clear hcz38_1
      try clear hcz38_2
      try clear hcz38_3
      try clear hcz38_4
      try clear hcz39_0
      try clear hcz39_1
      try clear hcz42_0
      try clear hcz42_1
      try clear hcz42_2
      try clear hcz42_3
      try clear hcz42_4
      try clear hcz43_0
      try clear hcz43_1
      try clear hfz15_0
      try clear hfz15_1
      try clear hfz15_2
      try clear hfz15_3
      try clear hfz15_4
      try clear hfz16_0
      try clear hfz16_1
      try clear hfz20_0
      try clear hfz20_1
      try clear hfz20_2
      try clear hfz20_3
      try clear hfz20_4
      try clear hfz21_0
      try clear hfz21_1
      try clear hfz25_0
      try clear hfz25_1
      try clear hfz25_2
      try clear hfz25_3
      try clear hfz25_4
      try clear hfz26_0
      try clear hfz26_1
      try clear hfz28_0
      try clear hfz28_1
      try clear hfz28_2
      try clear hfz28_3
      try clear hfz28_4
      try clear hfz31_0
      try clear hfz31_1
      try clear hfz31_2
      try clear hfz31_3
      try clear hfz31_4
      try clear hfz32_0
      try clear hfz32_1
      try clear hfz38_0
      try clear hfz38_1
      try clear hfz38_2
      try clear hfz38_3
      try clear hfz38_4
      try clear hfz39_0
      try clear hfz39_1
      try clear hfz42_0
      try clear hfz42_1
      try clear hfz42_2
      try clear hfz42_3
      try clear hfz42_4
      try clear hfz43_0
      try clear hfz43_1
      try clear p2
      obtain ⟨x14_2, x15_2, x351000_2, x351001_2, u351000, rfl, rfl, HA, HK2, HO_351000, BK349, BK350, HB⟩ := hrel
      cases gk with
      | zero => exact absurd HA.out (by simp [taquinlaw26_PuzzleBack.l0])
      | succ k2 =>
       have H := HA.out
       clear HA
       simp only [taquinlaw26_PuzzleBack.l0] at H
       by_cases c45 : x15_2 < (l4.length : Int)
       ·rw [if_pos c45] at H
        have c45b0 : decide (x15_2 < (l4.length : Int)) = true := decide_eq_true c45
        clear c45
        replace H := Option.bind_eq_some_iff.mp H
        obtain ⟨t358, A460, H⟩ := H
        replace H : (if (t358.length : Int) > 0 then (if 0 ≤ x15_2 then (if (t358.length : Int) = 0 then (none) else (if 0 ≤ ((mx (rd l4 x15_2) 0) % (t358.length : Int)) then (if ((mx (rd l4 x15_2) 0) % (t358.length : Int)) < (t358.length : Int) then ((layout_Do.f x351000_2 x351001_2 ((rd_T51 t358 ((mx (rd l4 x15_2) 0) % (t358.length : Int))).f0) ((rd_T51 t358 ((mx (rd l4 x15_2) 0) % (t358.length : Int))).f1)).bind fun bt363 => (taquinlaw26_PuzzleBack.l0 k2 l1 a3 l4 t351 t354 t355 (wrap64 (x14_2 + 1)) (wrap64 (x15_2 + 1)) a0_0 a0_1 a0_2 l0_3 l0_4 bt363.1 bt363.2.1)) else (none)) else (none))) else (none)) else (taquinlaw26_PuzzleBack.l0 k2 l1 a3 l4 t351 t354 t355 x14_2 (wrap64 (x15_2 + 1)) a0_0 a0_1 a0_2 l0_3 l0_4 x351000_2 x351001_2)) = some r := H
        have A46 := Aside0.mk A460
        clear A460
        by_cases c47 : (t358.length : Int) > 0
        ·rw [if_pos c47] at H
         have c47b0 : decide (0 < (t358.length : Int)) = true := decide_eq_true c47
         have c47b1 : decide (0 < t358.length) = true := decide_eq_true (by omega)
         clear c47
         by_cases c48 : 0 ≤ x15_2
         ·rw [if_pos c48] at H
          have c48b0 : decide (0 ≤ x15_2) = true := decide_eq_true c48
          clear c48
          obtain ⟨ji49, hji49⟩ : ∃ j_ : Int, (mx (rd l4 x15_2) 0) = j_ := ⟨_, rfl⟩
          replace H : (if (t358.length : Int) = 0 then (none) else (if 0 ≤ ((ji49) % (t358.length : Int)) then (if ((ji49) % (t358.length : Int)) < (t358.length : Int) then ((layout_Do.f x351000_2 x351001_2 ((rd_T51 t358 ((ji49) % (t358.length : Int))).f0) ((rd_T51 t358 ((ji49) % (t358.length : Int))).f1)).bind fun bt363 => (taquinlaw26_PuzzleBack.l0 k2 l1 a3 l4 t351 t354 t355 (wrap64 (x14_2 + 1)) (wrap64 (x15_2 + 1)) a0_0 a0_1 a0_2 l0_3 l0_4 bt363.1 bt363.2.1)) else (none)) else (none))) = some r := by first | (rw [hji49] at H; exact H) | (simp only [hji49] at H ⊢; exact H)
          (try rw [hji49] at A46)
          have hji49_ : (if (rd l4 x15_2) < 0 then 0 else (rd l4 x15_2)) = ji49 := hji49
          by_cases c50 : (t358.length : Int) = 0
          ·rw [if_pos c50] at H
           exact absurd H (by simp)
          ·rw [if_neg c50] at H
           have c50b0 : ((t358.length : Int) == 0) = false := beq_eq_false_iff_ne.mpr c50
           have c50b1 : ((t358.length : Int) != 0) = true := bne_iff_ne.mpr c50
           have c50b2 : ¬ (t358 = []) := fun h_ => c50 (by rw [h_]; rfl)
           obtain ⟨ji51, hji51⟩ : ∃ j_ : Int, ((ji49) % (t358.length : Int)) = j_ := ⟨_, rfl⟩
           replace H : (if 0 ≤ (ji51) then (if (ji51) < (t358.length : Int) then ((layout_Do.f x351000_2 x351001_2 ((rd_T51 t358 (ji51)).f0) ((rd_T51 t358 (ji51)).f1)).bind fun bt363 => (taquinlaw26_PuzzleBack.l0 k2 l1 a3 l4 t351 t354 t355 (wrap64 (x14_2 + 1)) (wrap64 (x15_2 + 1)) a0_0 a0_1 a0_2 l0_3 l0_4 bt363.1 bt363.2.1)) else (none)) else (none)) = some r := by first | (rw [hji51] at H; exact H) | (simp only [hji51] at H ⊢; exact H)
           (try rw [hji51] at A46)
           by_cases c52 : 0 ≤ (ji51)
           ·rw [if_pos c52] at H
            have c52b0 : decide (0 ≤ (ji51)) = true := decide_eq_true c52
            clear c52
            by_cases c53 : (ji51) < (t358.length : Int)
            ·rw [if_pos c53] at H
             have c53b0 : decide ((ji51) < (t358.length : Int)) = true := decide_eq_true c53
             clear c53
             replace H := Option.bind_eq_some_iff.mp H
             obtain ⟨⟨t363, t366, t367⟩, A540, H⟩ := H
             replace H : (taquinlaw26_PuzzleBack.l0 k2 l1 a3 l4 t351 t354 t355 (wrap64 (x14_2 + 1)) (wrap64 (x15_2 + 1)) a0_0 a0_1 a0_2 l0_3 l0_4 t363 t366) = some r := H
             have A54 := Aside0.mk A540
             clear A540
             have H' := Aside0.mk H
             clear H
             have hnb55 := NB349_350.out
             have hnc55 := NB350_349.out
             have hcz56_0 : wr.cell? ⟨gb349, 0, none⟩ = some (.int .i64 a0_0) := (blk_cell BK349.out 0).trans rfl
             have hcz56_1 : wr.cell? ⟨gb349, 1, none⟩ = some (.int .i64 a0_1) := (blk_cell BK349.out 1).trans rfl
             have hcz56_2 : wr.cell? ⟨gb349, 2, none⟩ = some (.int .i64 a0_2) := (blk_cell BK349.out 2).trans rfl
             have hcz56_3 : wr.cell? ⟨gb349, 3, none⟩ = some (.slice A0_3 l0_3.length c0_3) := (blk_cell BK349.out 3).trans rfl
             have hcz56_4 : wr.cell? ⟨gb349, 4, none⟩ = some (.slice A0_4 l0_4.length c0_4) := (blk_cell BK349.out 4).trans rfl
             have hfz56_0 := blk_frozen BK349.out 0
             have hfz56_1 := blk_frozen BK349.out 1
             have hfz56_2 := blk_frozen BK349.out 2
             have hfz56_3 := blk_frozen BK349.out 3
             have hfz56_4 := blk_frozen BK349.out 4
             have hcz57_0 : wr.cell? ⟨gb350, 0, none⟩ = some (u351000) := (blk_cell BK350.out 0).trans rfl
             have hcz57_1 : wr.cell? ⟨gb350, 1, none⟩ = some (.int .i64 x351001_2) := (blk_cell BK350.out 1).trans rfl
             have hfz57_0 := blk_frozen BK350.out 0
             have hfz57_1 := blk_frozen BK350.out 1
             obtain ⟨Ao58, co58, eo58⟩ := Kd.V_slice HO_351000.out
             subst eo58
             try go_wp2_with (first | ((with_reducible refine gate_callee (f := 29) rfl ?_); refine goesL_ (some 62) rfl rfl Try.func29 (by kernel_rfl) rfl #[.agg #[.int .i64 a0_0, .int .i64 a0_1, .int .i64 a0_2, .slice A0_3 l0_3.length c0_3, .slice A0_4 l0_4.length c0_4], .slice A1 l1.length c1, .agg #[.slice Ao58 x351000_2.length co58, .int .i64 x351001_2]] rfl (by (try simp only [List.map_toArray, List.map_cons, List.map_nil]); first | done | rfl | (simp only [List.length_drop, List.length_take]; rfl)) ?_; (with_reducible refine (layout_Shifts.calls a0_0 a0_1 a0_2 _ _ l0_3 _ _ l0_4 _ _ l1 _ _ x351000_2 x351001_2 t358 _ ?side1 ?side2 ?side3 ?side4 ?side5 ?side6 ?side7 ?side8 A46.out).mono ?_); (case side1 => repeat (first | exact (Kd.C_below HR0_3.out HB.out) | (with_reducible refine Kd.C_alloc ?_ _) | (with_reducible refine Kd.C_drewN ?_ _) | (with_reducible refine Kd.C_drew ?_))); (case side2 => exact HC0_3.out); (case side3 => repeat (first | exact (Kd.C_below HR0_4.out HB.out) | (with_reducible refine Kd.C_alloc ?_ _) | (with_reducible refine Kd.C_drewN ?_ _) | (with_reducible refine Kd.C_drew ?_))); (case side4 => exact HC0_4.out); (case side5 => repeat (first | exact (Kd.C_below HR1.out HB.out) | (with_reducible refine Kd.C_alloc ?_ _) | (with_reducible refine Kd.C_drewN ?_ _) | (with_reducible refine Kd.C_drew ?_))); (case side6 => exact HC1.out); (case side7 => repeat (first | exact (Kd.V_reads' HO_351000.out).2.2 | (with_reducible refine Kd.C_alloc ?_ _) | (with_reducible refine Kd.C_drewN ?_ _) | (with_reducible refine Kd.C_drew ?_))); (case side8 => exact (Kd.V_reads' HO_351000.out).2.1); rintro e w59 ⟨v359, rfl, ho0, hb⟩; refine ⟨_, rfl, ?_⟩; have n0_ := Aside0.mk (Kd.V_elder' (by (with_reducible repeat (first | apply Kd.V_alloc | apply Kd.V_drewN | apply Kd.V_drew)); exact HO_351000.out) (Kd.R_base ho0) hb); have n1_ := Aside0.mk (Kd.R_lower (Kd.R_newM (M := fun k_ => (w.heap.size ≤ k_)) ho0 (below_size (by repeat (first | (with_reducible first | exact HB.out | apply below_alloc | apply pw_below_drewN | apply below_drew1 | refine below_set ?_ GE349.out | refine below_set ?_ GE350.out) | exact HB.out))) (fun k_ h_ => h_)) (below_size (by repeat (first | (with_reducible first | exact HB.out | apply below_alloc | apply pw_below_drewN | apply below_drew1 | refine below_set ?_ GE349.out | refine below_set ?_ GE350.out) | exact HB.out)))); have n2_ := Aside0.mk (blk_below (g := gb349) (o := .cells #[.int .i64 a0_0, .int .i64 a0_1, .int .i64 a0_2, .slice A0_3 l0_3.length c0_3, .slice A0_4 l0_4.length c0_4] 24 (0, 0)) (by (with_reducible repeat (first | refine blk_drewN ?_ _ | refine blk_drew ?_ | refine blk_alloc ?_ _)); exact BK349.out) hb); have n3_ := Aside0.mk (blk_below (g := gb350) (o := .cells #[.slice Ao58 x351000_2.length co58, .int .i64 x351001_2] 27 (0, 0)) (by (with_reducible repeat (first | refine blk_drewN ?_ _ | refine blk_drew ?_ | refine blk_alloc ?_ _)); exact BK350.out) hb); have n4_ := Aside0.mk (below_step (by repeat (first | (with_reducible first | exact HB.out | apply below_alloc | apply pw_below_drewN | apply below_drew1 | refine below_set ?_ GE349.out | refine below_set ?_ GE350.out) | exact HB.out)) hb); clear HO_351000; clear BK349; clear BK350; clear HB; have HO_351000 := n0_; have HO360 := n1_; have BK349 := n2_; have BK350 := n3_; have HB := n4_; clear n0_ n1_ n2_ n3_ n4_; (try clear hb); (try clear hb2); (try clear hk); (try clear hi); (try clear ho0); obtain ⟨Ao60, co60, eo60⟩ := Kd.R_slice HO360.out; subst eo60))
             have n0_ := Aside0.mk (Kd.V_drew HO_351000.out)
             have n1_ := Aside0.mk (Kd.R_drew HO360.out)
             have n2_ := Aside0.mk (blk_drew BK349.out)
             have n3_ := Aside0.mk (blk_drew BK350.out)
             have n4_ := Aside0.mk (below_drew1 HB.out)
             clear HO_351000
             clear HO360
             clear BK349
             clear BK350
             clear HB
             have HO_351000 := n0_
             have HO360 := n1_
             have BK349 := n2_
             have BK350 := n3_
             have HB := n4_
             clear n0_ n1_ n2_ n3_ n4_
             have p361 : 0 ≤ (x15_2 : Int) := of_decide_eq_true (by first | (with_reducible assumption) | assumption)
             have q361 : x15_2 < (l4.length : Int) := of_decide_eq_true (by first | (with_reducible assumption) | assumption)
             obtain ⟨ad361, e361, hx361_0⟩ := Kd.at_int HR4.out x15_2 p361 q361
             have hw361_0 := hx361_0
             cases e361
             replace hx361_0 := (HB.out.cell (World.block_lt_of_cell? w _ hx361_0)).trans hx361_0
             replace p361 := eq_true p361
             replace q361 := eq_true q361
             have hn_ : 0 ≤ ji49 := by have hh := hji49_; split at hh <;> omega
             have ht_ : Int.tmod ji49 (t358.length : Int) = ji51 := by rw [Int.tmod_eq_emod_of_nonneg hn_]; exact hji51
             have p362 : 0 ≤ ((ji51) : Int) := of_decide_eq_true (by first | (with_reducible assumption) | assumption)
             have q362 : (ji51) < (t358.length : Int) := of_decide_eq_true (by first | (with_reducible assumption) | assumption)
             obtain ⟨ad362, e362, hx362_0, hx362_1⟩ := at_T51 (Kd.R_reads' HO360.out).2.2 (ji51) p362 q362
             cases e362
             replace p362 := eq_true p362
             replace q362 := eq_true q362
             refine start_ (n := 17) (S := fun w' => w'.cell? ⟨gb350, 0, none⟩ = some (.slice Ao58 x351000_2.length co58) ∧ w'.cell? ⟨gb350, 1, none⟩ = some (.int .i64 x351001_2) ∧ w'.cell? (ad361.add (x15_2).toNat) = some (.int .i64 (rd l4 x15_2)) ∧ w'.cell? (ad362.add (((ji51)).toNat * 2)) = some (.int .i64 ((rd_T51 t358 (ji51)).f0)) ∧ w'.cell? ⟨(ad362.add (((ji51)).toNat * 2)).block, (ad362.add (((ji51)).toNat * 2)).off + 1, none⟩ = some (.int .i64 ((rd_T51 t358 (ji51)).f1))) (ds := [16]) #[false, false, false, false, false, false, false, false, false, false, false, false, false, false, false, false, false] (by kernel_rfl) rfl rfl ⟨(blk_cell BK350.out 0).trans rfl, (blk_cell BK350.out 1).trans rfl, ((HB.out.cell (World.block_lt_of_cell? w _ hw361_0)).trans hw361_0), hx362_0, hx362_1⟩ (fun hHeld => ?_); refine with_tabW taquinlaw26_PuzzleBack.tab13 taquinlaw26_PuzzleBack.bits13 (fun HT_ HW_ => ?_)
             generalize w59.drew = w61 at HO_351000 HO360 BK349 BK350 HB hx361_0 hx362_0 hx362_1 hHeld ⊢
             refine pure_ (i := 1) (N := some 68) (v := ?_) (a' := ?_) #[false, true, false, false, false, false, false, false, false, false, false, false, false, false, false, false, false] rfl rfl (any_of HT_.out (by kernel_rfl)) (fun _ _ _ h => h) (Or.inl ⟨by rfl, ?_⟩) ?_ ?_
             rotate_left
             ·intro w'
              go_simp
              with_reducible rfl
             rotate_left
             ·simp only [Act.put, List.setIfInBounds_toArray, List.set_cons_zero, List.set_cons_succ, i64_w, i32_w]
              rfl
             refine pure_ (i := 2) (N := some 69) (v := ?_) (a' := ?_) #[false, true, true, false, false, false, false, false, false, false, false, false, false, false, false, false, false] rfl rfl (any_of HT_.out (by kernel_rfl)) (fun _ _ _ h => h) (Or.inl ⟨by rfl, ?_⟩) ?_ ?_
             rotate_left
             ·intro w'
              go_simp
              with_reducible rfl
             rotate_left
             ·simp only [Act.put, List.setIfInBounds_toArray, List.set_cons_zero, List.set_cons_succ, i64_w, i32_w]
              rfl
             refine pure_ (i := 3) (N := some 70) (v := ?_) (a' := ?_) #[false, true, true, true, false, false, false, false, false, false, false, false, false, false, false, false, false] rfl rfl (any_of HT_.out (by kernel_rfl)) (fun _ _ _ h => h) (Or.inl ⟨by rfl, ?_⟩) ?_ ?_
             rotate_left
             ·intro w'
              go_simp
              with_reducible rfl
             rotate_left
             ·simp only [Act.put, List.setIfInBounds_toArray, List.set_cons_zero, List.set_cons_succ, i64_w, i32_w]
              rfl
             refine pure_ (i := 4) (N := some 71) (v := ?_) (a' := ?_) #[false, true, true, true, true, false, false, false, false, false, false, false, false, false, false, false, false] rfl rfl (any_of HT_.out (by kernel_rfl)) (fun _ _ _ h => h) (Or.inl ⟨by rfl, ?_⟩) ?_ ?_
             rotate_left
             ·intro w'
              go_simp
              with_reducible rfl
             rotate_left
             ·simp only [Act.put, List.setIfInBounds_toArray, List.set_cons_zero, List.set_cons_succ, i64_w, i32_w]
              rfl
             refine pure_ (i := 7) (N := some 74) (v := ?_) (a' := ?_) #[false, true, true, true, true, false, false, true, false, false, false, false, false, false, false, false, false] rfl rfl (any_of HT_.out (by kernel_rfl)) (fun _ _ _ h => h) (Or.inl ⟨by rfl, ?_⟩) ?_ ?_
             rotate_left
             ·intro w'
              go_simp
              with_reducible rfl
             rotate_left
             ·simp only [Act.put, List.setIfInBounds_toArray, List.set_cons_zero, List.set_cons_succ, i64_w, i32_w]
              rfl
             refine pure_ (i := 8) (N := some 75) (v := ?_) (a' := ?_) #[false, true, true, true, true, false, false, true, true, false, false, false, false, false, false, false, false] rfl rfl (any_of HT_.out (by kernel_rfl)) (fun _ _ _ h => h) (Or.inl ⟨by rfl, ?_⟩) ?_ ?_
             rotate_left
             ·intro w'
              go_simp
              with_reducible rfl
             rotate_left
             ·simp only [Act.put, List.setIfInBounds_toArray, List.set_cons_zero, List.set_cons_succ, i64_w, i32_w]
              rfl
             refine take_ (i := 0) (N := some 67) (v := ?_) (a' := ?_) #[true, true, true, true, true, false, false, true, true, false, false, false, false, false, false, false, false] rfl rfl (take_ofW HT_.out HW_.out (by kernel_rfl)) (fun _ _ _ h => h) (Or.inl ⟨by rfl, ?_⟩) hHeld ?_ ?_
             rotate_left
             ·rintro w' ⟨s0, s1, s2, s3, s4⟩
              go_simp
              with_reducible rfl
             rotate_left
             ·simp only [Act.put, List.setIfInBounds_toArray, List.set_cons_zero, List.set_cons_succ, i64_w, i32_w]
              rfl
             refine take_ (i := 5) (N := some 72) (v := ?_) (a' := ?_) #[true, true, true, true, true, true, false, true, true, false, false, false, false, false, false, false, false] rfl rfl (take_ofW HT_.out HW_.out (by kernel_rfl)) (fun _ _ _ h => h) (Or.inl ⟨by rfl, ?_⟩) hHeld ?_ ?_
             rotate_left
             ·rintro w' ⟨s0, s1, s2, s3, s4⟩
              go_simp
              with_reducible rfl
             rotate_left
             ·simp only [Act.put, List.setIfInBounds_toArray, List.set_cons_zero, List.set_cons_succ, i64_w, i32_w]
              rfl
             refine pure_ (i := 6) (N := some 73) (v := ?_) (a' := ?_) #[true, true, true, true, true, true, true, true, true, false, false, false, false, false, false, false, false] rfl rfl (any_of HT_.out (by kernel_rfl)) (fun _ _ _ h => h) (Or.inl ⟨by rfl, ?_⟩) ?_ ?_
             rotate_left
             ·intro w'
              go_simp
              with_reducible rfl
             rotate_left
             ·simp only [Act.put, List.setIfInBounds_toArray, List.set_cons_zero, List.set_cons_succ, i64_w, i32_w]
              rfl
             refine pure_ (i := 9) (N := some 76) (v := ?_) (a' := ?_) #[true, true, true, true, true, true, true, true, true, true, false, false, false, false, false, false, false] rfl rfl (any_of HT_.out (by kernel_rfl)) (fun _ _ _ h => h) (Or.inl ⟨by rfl, ?_⟩) ?_ ?_
             rotate_left
             ·intro w'
              go_simp
              with_reducible rfl
             rotate_left
             ·simp only [Act.put, List.setIfInBounds_toArray, List.set_cons_zero, List.set_cons_succ, i64_w, i32_w]
              rfl
             refine pure_ (i := 10) (N := some 77) (v := ?_) (a' := ?_) #[true, true, true, true, true, true, true, true, true, true, true, false, false, false, false, false, false] rfl rfl (any_of HT_.out (by kernel_rfl)) (fun _ _ _ h => h) (Or.inl ⟨by rfl, ?_⟩) ?_ ?_
             rotate_left
             ·intro w'
              go_simp
              with_reducible rfl
             rotate_left
             ·simp only [Act.put, List.setIfInBounds_toArray, List.set_cons_zero, List.set_cons_succ, i64_w, i32_w]
              rfl
             refine take_ (i := 11) (N := some 78) (v := ?_) (a' := ?_) #[true, true, true, true, true, true, true, true, true, true, true, true, false, false, false, false, false] rfl rfl (take_ofW HT_.out HW_.out (by kernel_rfl)) (fun _ _ _ h => h) (Or.inl ⟨by rfl, ?_⟩) hHeld ?_ ?_
             rotate_left
             ·rintro w' ⟨s0, s1, s2, s3, s4⟩
              go_simp
              with_reducible rfl
             rotate_left
             ·simp only [Act.put, List.setIfInBounds_toArray, List.set_cons_zero, List.set_cons_succ, i64_w, i32_w]
              rfl
             refine one_ (i := 12) (N := some 79) #[true, true, true, true, true, true, true, true, true, true, true, true, true, false, false, false, false] rfl rfl (one_of HT_.out (by kernel_rfl)) (by decide) (fun K hK => ?_)
             refine goes_ Try.func30 (by kernel_rfl) rfl #[.agg #[.slice Ao58 x351000_2.length co58, .int .i64 x351001_2], .agg #[.int .i64 ((rd_T51 t358 (ji51)).f0), .int .i64 ((rd_T51 t358 (ji51)).f1)]] (by rfl) rfl rfl (by (try simp only [List.map_toArray, List.map_cons, List.map_nil]); first | done | (simp only [hji51]; rfl) | rfl | (simp only [List.length_drop, List.length_take]; rfl)) ?_
             with_reducible refine (layout_Do.calls _ _ x351000_2 x351001_2 ((rd_T51 t358 (ji51)).f0) ((rd_T51 t358 (ji51)).f1) t363 t366 t367 _ ?side1 ?side2 A54.out).mono ?_
             (case side1 => repeat (first | exact (Kd.V_reads' HO_351000.out).2.2 | (with_reducible refine Kd.C_alloc ?_ _) | (with_reducible refine Kd.C_drewN ?_ _) | (with_reducible refine Kd.C_drew ?_)))
             (case side2 => exact (Kd.V_reads' HO_351000.out).2.1)
             rintro e w62 ⟨v364, rfl, ho0, hb⟩
             have HS3_ := (hb.cell (World.block_lt_of_cell? _ _ (hHeld.2.2.2.1))).trans (hHeld.2.2.2.1)
             have HS4_ := (hb.cell (World.block_lt_of_cell? _ _ (hHeld.2.2.2.2))).trans (hHeld.2.2.2.2)
             refine ⟨_, rfl, ?_⟩
             have n0_ := Aside0.mk (Kd.V_elder' (by (with_reducible repeat (first | apply Kd.V_alloc | apply Kd.V_drewN | apply Kd.V_drew)); exact HO_351000.out) (Kd.R_base ho0) hb)
             have n1_ := Aside0.mk (Kd.R_below (by (with_reducible repeat (first | apply Kd.R_alloc | apply Kd.R_drewN | apply Kd.R_drew)); exact HO360.out) hb)
             have n2_ := Aside0.mk (Kd.R_lower (Kd.R_newM (M := fun k_ => (w.heap.size ≤ k_)) ho0 (below_size (by repeat (first | (with_reducible first | exact HB.out | apply below_alloc | apply pw_below_drewN | apply below_drew1 | refine below_set ?_ GE349.out | refine below_set ?_ GE350.out) | exact HB.out))) (fun k_ h_ => h_)) (below_size (by repeat (first | (with_reducible first | exact HB.out | apply below_alloc | apply pw_below_drewN | apply below_drew1 | refine below_set ?_ GE349.out | refine below_set ?_ GE350.out) | exact HB.out))))
             have n3_ := Aside0.mk (blk_below (g := gb349) (o := .cells #[.int .i64 a0_0, .int .i64 a0_1, .int .i64 a0_2, .slice A0_3 l0_3.length c0_3, .slice A0_4 l0_4.length c0_4] 24 (0, 0)) (by (with_reducible repeat (first | refine blk_drewN ?_ _ | refine blk_drew ?_ | refine blk_alloc ?_ _)); exact BK349.out) hb)
             have n4_ := Aside0.mk (blk_below (g := gb350) (o := .cells #[.slice Ao58 x351000_2.length co58, .int .i64 x351001_2] 27 (0, 0)) (by (with_reducible repeat (first | refine blk_drewN ?_ _ | refine blk_drew ?_ | refine blk_alloc ?_ _)); exact BK350.out) hb)
             have n5_ := Aside0.mk (below_step (by repeat (first | (with_reducible first | exact HB.out | apply below_alloc | apply pw_below_drewN | apply below_drew1 | refine below_set ?_ GE349.out | refine below_set ?_ GE350.out) | exact HB.out)) hb)
             clear HO_351000
             clear HO360
             clear BK349
             clear BK350
             clear HB
             have HO_351000 := n0_
             have HO360 := n1_
             have HO365 := n2_
             have BK349 := n3_
             have BK350 := n4_
             have HB := n5_
             clear n0_ n1_ n2_ n3_ n4_ n5_
             (try clear hb)
             (try clear hb2)
             (try clear hk)
             (try clear hi)
             (try clear ho0)
             obtain ⟨Ao63, co63, eo63⟩ := Kd.R_slice HO365.out
             (first | subst eo63 | (injection eo63 with f1_ f2_ f3_; have f4_ := f1_.symm; have f5_ := f3_.symm; clear f1_ f2_ f3_; subst f4_; subst f5_))
             refine hK.out _ _ ⟨(blk_cell BK350.out 0).trans rfl, (blk_cell BK350.out 1).trans rfl, ((HB.out.cell (World.block_lt_of_cell? w _ hw361_0)).trans hw361_0), HS3_, HS4_⟩ (fun hHeld => ?_)
             clear hK K
             refine norm_ (a' := ?_) ?_ ?_
             rotate_left
             ·show Act.put _ (some 79) _ = _
              simp only [Act.put, List.setIfInBounds_toArray, List.set_cons_zero, List.set_cons_succ, i64_w, i32_w]
              rfl
             refine pure_ (i := 13) (N := some 66) (v := ?_) (a' := ?_) #[true, true, true, true, true, true, true, true, true, true, true, true, true, true, false, false, false] rfl rfl (any_of HT_.out (by kernel_rfl)) (fun _ _ _ h => h) (Or.inl ⟨by rfl, ?_⟩) ?_ ?_
             rotate_left
             ·intro w'
              go_simp
              with_reducible rfl
             rotate_left
             ·simp only [Act.put, List.setIfInBounds_toArray, List.set_cons_zero, List.set_cons_succ, i64_w, i32_w]
              rfl
             refine pure_ (i := 14) (N := some 80) (v := ?_) (a' := ?_) #[true, true, true, true, true, true, true, true, true, true, true, true, true, true, true, false, false] rfl rfl (any_of HT_.out (by kernel_rfl)) (fun _ _ _ h => h) (Or.inl ⟨by rfl, ?_⟩) ?_ ?_
             rotate_left
             ·intro w'
              go_simp
              with_reducible rfl
             rotate_left
             ·simp only [Act.put, List.setIfInBounds_toArray, List.set_cons_zero, List.set_cons_succ, i64_w, i32_w]
              rfl
             refine pure_ (i := 15) (N := some 81) (v := ?_) (a' := ?_) #[true, true, true, true, true, true, true, true, true, true, true, true, true, true, true, true, false] rfl rfl (any_of HT_.out (by kernel_rfl)) (fun _ _ _ h => h) (Or.inl ⟨by rfl, ?_⟩) ?_ ?_
             rotate_left
             ·intro w'
              go_simp
              with_reducible rfl
             rotate_left
             ·simp only [Act.put, List.setIfInBounds_toArray, List.set_cons_zero, List.set_cons_succ, i64_w, i32_w]
              rfl
             refine last_ (i := 16) (N := none) #[true, true, true, true, true, true, true, true, true, true, true, true, true, true, true, true, true] rfl rfl (one_of HT_.out (by kernel_rfl)) (by decide) (fun K hK => ?_)
             have hs64 : w62.cell? ⟨gb350, 0, none⟩ = some (.slice Ao58 x351000_2.length co58) := (blk_cell BK350.out 0).trans rfl
             have hfs64 := blk_frozen BK350.out 0
             have hns64_0 := NB349_350.out
             have hms64_0 := NB350_349.out
             have hs65 : w62.cell? ⟨gb350, 1, none⟩ = some (.int .i64 x351001_2) := (blk_cell BK350.out 1).trans rfl
             have hfs65 := blk_frozen BK350.out 1
             have hns65_0 := NB349_350.out
             have hms65_0 := NB350_349.out
             refine skip_ (w1 := ?_) (by rfl) rfl ?_ ?_
             rotate_left
             ·go_simp
              rfl
             refine hK.out _ _ ?_
             clear hK K
             refine done_ (done_of HT_.out (by kernel_rfl)) ?_
             try go_wp2
             go_roundg k2
             case measure => have := HJ6.out; have := HK2.out; omega
             case rel => exact ⟨(wrap64 (x14_2 + 1)), (wrap64 (x15_2 + 1)), (t363), (t366), (.slice Ao63 t363.length co63), (by first | rfl | (simp; done) | (simp [*]; done)), (by first | rfl | (simp; done) | (simp [*]; done)), H', ⟨by have := HJ6.out; have := HK2.out; omega⟩, ⟨Kd.V_mono (Kd.R_V (by (with_reducible repeat (first | apply Kd.R_alloc | apply Kd.R_drewN | apply Kd.R_drew)); exact Kd.R_bound (Kd.R_far (p := ⟨gb350, 1, none⟩) (Kd.R_far (p := ⟨gb350, 0, none⟩) (Kd.R_types (Kd.R_types (Kd.R_types HO365.out BK349.out (by decide)) BK350.out (by decide)) BK350.out (by decide)) (fun _ hk => hk.2) (.slice Ao63 t363.length co63)) (fun _ hk => hk.2) (.int .i64 t366)))) (by intro k_ hk; first | grind | (simp_all; done))⟩, ⟨by (with_reducible repeat (first | refine blk_drewN ?_ _ | refine blk_drew ?_ | refine blk_alloc ?_ _)); refine blk_far ?_ NB349_350.out _; (with_reducible repeat (first | refine blk_drewN ?_ _ | refine blk_drew ?_ | refine blk_alloc ?_ _)); refine blk_far ?_ NB349_350.out _; (with_reducible repeat (first | refine blk_drewN ?_ _ | refine blk_drew ?_ | refine blk_alloc ?_ _)); exact BK349.out⟩, ⟨by (with_reducible repeat (first | refine blk_drewN ?_ _ | refine blk_drew ?_ | refine blk_alloc ?_ _)); refine blk_put (cs := #[.slice Ao63 t363.length co63, .int .i64 x351001_2]) ?_ 1 _ rfl; (with_reducible repeat (first | refine blk_drewN ?_ _ | refine blk_drew ?_ | refine blk_alloc ?_ _)); refine blk_put (cs := #[.slice Ao58 x351000_2.length co58, .int .i64 x351001_2]) ?_ 0 _ rfl; (with_reducible repeat (first | refine blk_drewN ?_ _ | refine blk_drew ?_ | refine blk_alloc ?_ _)); exact BK350.out⟩, ⟨by repeat (first | (with_reducible first | exact HB.out | apply below_alloc | apply pw_below_drewN | apply below_drew1 | refine below_set ?_ GE349.out | refine below_set ?_ GE350.out) | exact HB.out)⟩⟩
            ·rw [if_neg c53] at H
             exact absurd H (by simp)
           ·rw [if_neg c52] at H
            exact absurd H (by simp)
         ·rw [if_neg c48] at H
          exact absurd H (by simp)
        ·rw [if_neg c47] at H
         have c47b0 : decide (0 < (t358.length : Int)) = false := decide_eq_false c47
         have c47b1 : decide (0 < t358.length) = false := decide_eq_false (by omega)
         clear c47
         have H' := Aside0.mk H
         clear H
         have hnb66 := NB349_350.out
         have hnc66 := NB350_349.out
         have hcz67_0 : wr.cell? ⟨gb349, 0, none⟩ = some (.int .i64 a0_0) := (blk_cell BK349.out 0).trans rfl
         have hcz67_1 : wr.cell? ⟨gb349, 1, none⟩ = some (.int .i64 a0_1) := (blk_cell BK349.out 1).trans rfl
         have hcz67_2 : wr.cell? ⟨gb349, 2, none⟩ = some (.int .i64 a0_2) := (blk_cell BK349.out 2).trans rfl
         have hcz67_3 : wr.cell? ⟨gb349, 3, none⟩ = some (.slice A0_3 l0_3.length c0_3) := (blk_cell BK349.out 3).trans rfl
         have hcz67_4 : wr.cell? ⟨gb349, 4, none⟩ = some (.slice A0_4 l0_4.length c0_4) := (blk_cell BK349.out 4).trans rfl
         have hfz67_0 := blk_frozen BK349.out 0
         have hfz67_1 := blk_frozen BK349.out 1
         have hfz67_2 := blk_frozen BK349.out 2
         have hfz67_3 := blk_frozen BK349.out 3
         have hfz67_4 := blk_frozen BK349.out 4
         have hcz68_0 : wr.cell? ⟨gb350, 0, none⟩ = some (u351000) := (blk_cell BK350.out 0).trans rfl
         have hcz68_1 : wr.cell? ⟨gb350, 1, none⟩ = some (.int .i64 x351001_2) := (blk_cell BK350.out 1).trans rfl
         have hfz68_0 := blk_frozen BK350.out 0
         have hfz68_1 := blk_frozen BK350.out 1
         obtain ⟨Ao69, co69, eo69⟩ := Kd.V_slice HO_351000.out
         subst eo69
         go_wp2_with (first | ((with_reducible refine gate_callee (f := 29) rfl ?_); refine goesL_ (some 62) rfl rfl Try.func29 (by kernel_rfl) rfl #[.agg #[.int .i64 a0_0, .int .i64 a0_1, .int .i64 a0_2, .slice A0_3 l0_3.length c0_3, .slice A0_4 l0_4.length c0_4], .slice A1 l1.length c1, .agg #[.slice Ao69 x351000_2.length co69, .int .i64 x351001_2]] rfl (by (try simp only [List.map_toArray, List.map_cons, List.map_nil]); first | done | rfl | (simp only [List.length_drop, List.length_take]; rfl)) ?_; (with_reducible refine (layout_Shifts.calls a0_0 a0_1 a0_2 _ _ l0_3 _ _ l0_4 _ _ l1 _ _ x351000_2 x351001_2 t358 _ ?side1 ?side2 ?side3 ?side4 ?side5 ?side6 ?side7 ?side8 A46.out).mono ?_); (case side1 => repeat (first | exact (Kd.C_below HR0_3.out HB.out) | (with_reducible refine Kd.C_alloc ?_ _) | (with_reducible refine Kd.C_drewN ?_ _) | (with_reducible refine Kd.C_drew ?_))); (case side2 => exact HC0_3.out); (case side3 => repeat (first | exact (Kd.C_below HR0_4.out HB.out) | (with_reducible refine Kd.C_alloc ?_ _) | (with_reducible refine Kd.C_drewN ?_ _) | (with_reducible refine Kd.C_drew ?_))); (case side4 => exact HC0_4.out); (case side5 => repeat (first | exact (Kd.C_below HR1.out HB.out) | (with_reducible refine Kd.C_alloc ?_ _) | (with_reducible refine Kd.C_drewN ?_ _) | (with_reducible refine Kd.C_drew ?_))); (case side6 => exact HC1.out); (case side7 => repeat (first | exact (Kd.V_reads' HO_351000.out).2.2 | (with_reducible refine Kd.C_alloc ?_ _) | (with_reducible refine Kd.C_drewN ?_ _) | (with_reducible refine Kd.C_drew ?_))); (case side8 => exact (Kd.V_reads' HO_351000.out).2.1); rintro e w70 ⟨v359, rfl, ho0, hb⟩; refine ⟨_, rfl, ?_⟩; have n0_ := Aside0.mk (Kd.V_elder' (by (with_reducible repeat (first | apply Kd.V_alloc | apply Kd.V_drewN | apply Kd.V_drew)); exact HO_351000.out) (Kd.R_base ho0) hb); have n1_ := Aside0.mk (Kd.R_lower (Kd.R_newM (M := fun k_ => (w.heap.size ≤ k_)) ho0 (below_size (by repeat (first | (with_reducible first | exact HB.out | apply below_alloc | apply pw_below_drewN | apply below_drew1 | refine below_set ?_ GE349.out | refine below_set ?_ GE350.out) | exact HB.out))) (fun k_ h_ => h_)) (below_size (by repeat (first | (with_reducible first | exact HB.out | apply below_alloc | apply pw_below_drewN | apply below_drew1 | refine below_set ?_ GE349.out | refine below_set ?_ GE350.out) | exact HB.out)))); have n2_ := Aside0.mk (blk_below (g := gb349) (o := .cells #[.int .i64 a0_0, .int .i64 a0_1, .int .i64 a0_2, .slice A0_3 l0_3.length c0_3, .slice A0_4 l0_4.length c0_4] 24 (0, 0)) (by (with_reducible repeat (first | refine blk_drewN ?_ _ | refine blk_drew ?_ | refine blk_alloc ?_ _)); exact BK349.out) hb); have n3_ := Aside0.mk (blk_below (g := gb350) (o := .cells #[.slice Ao69 x351000_2.length co69, .int .i64 x351001_2] 27 (0, 0)) (by (with_reducible repeat (first | refine blk_drewN ?_ _ | refine blk_drew ?_ | refine blk_alloc ?_ _)); exact BK350.out) hb); have n4_ := Aside0.mk (below_step (by repeat (first | (with_reducible first | exact HB.out | apply below_alloc | apply pw_below_drewN | apply below_drew1 | refine below_set ?_ GE349.out | refine below_set ?_ GE350.out) | exact HB.out)) hb); clear HO_351000; clear BK349; clear BK350; clear HB; have HO_351000 := n0_; have HO360 := n1_; have BK349 := n2_; have BK350 := n3_; have HB := n4_; clear n0_ n1_ n2_ n3_ n4_; (try clear hb); (try clear hb2); (try clear hk); (try clear hi); (try clear ho0); obtain ⟨Ao71, co71, eo71⟩ := Kd.R_slice HO360.out; subst eo71))
         go_roundg k2
         case measure => have := HJ6.out; have := HK2.out; omega
         case rel => exact ⟨(x14_2), (wrap64 (x15_2 + 1)), (x351000_2), (x351001_2), (.slice Ao69 x351000_2.length co69), (by first | rfl | (simp; done) | (simp [*]; done)), (by first | rfl | (simp; done) | (simp [*]; done)), H', ⟨by have := HJ6.out; have := HK2.out; omega⟩, ⟨by (with_reducible repeat (first | apply Kd.V_alloc | apply Kd.V_drewN | apply Kd.V_drew)); exact Kd.V_mono HO_351000.out (fun _ hk => ⟨hk.1.1, ⟨hk.1.2.1, hk.1.2.2⟩⟩)⟩, ⟨by (with_reducible repeat (first | refine blk_drewN ?_ _ | refine blk_drew ?_ | refine blk_alloc ?_ _)); exact BK349.out⟩, ⟨by (with_reducible repeat (first | refine blk_drewN ?_ _ | refine blk_drew ?_ | refine blk_alloc ?_ _)); exact BK350.out⟩, ⟨by repeat (first | (with_reducible first | exact HB.out | apply below_alloc | apply pw_below_drewN | apply below_drew1 | refine below_set ?_ GE349.out | refine below_set ?_ GE350.out) | exact HB.out)⟩⟩
       ·rw [if_neg c45] at H
        have c45b0 : decide (x15_2 < (l4.length : Int)) = false := decide_eq_false c45
        clear c45
        replace H := Option.bind_eq_some_iff.mp H
        obtain ⟨⟨t356, t357⟩, A720, H⟩ := H
        replace H : (if t351 = true then (if t355 = t357 then (some (decide ((mx (wrap64 (t354 - t356)) (wrap64 (t356 - t354))) ≤ x14_2))) else (some false)) else (some false)) = some r := H
        have A72 := Aside0.mk A720
        clear A720
        by_cases c73 : t351 = true
        ·subst c73
         have H1 : (if t355 = t357 then (some (decide ((mx (wrap64 (t354 - t356)) (wrap64 (t356 - t354))) ≤ x14_2))) else (some false)) = some r := by rw [if_pos rfl] at H; exact H
         clear H
         have H := H1
         clear H1
         by_cases c74 : t355 = t357
         ·rw [if_pos c74] at H
          have c74b0 : (t355 == t357) = true := beq_iff_eq.mpr c74
          have c74b1 : (t355 != t357) = false := bne_eq_false_iff_eq.mpr c74
          clear c74
          obtain ⟨ji75, hji75⟩ : ∃ j_ : Int, (mx (wrap64 (t354 - t356)) (wrap64 (t356 - t354))) = j_ := ⟨_, rfl⟩
          replace H : (some (decide ((ji75) ≤ x14_2))) = some r := by first | (rw [hji75] at H; exact H) | (simp only [hji75] at H ⊢; exact H)
          (try rw [hji75] at A72)
          have hji75_ : (if (wrap64 (t354 - t356)) < (wrap64 (t356 - t354)) then (wrap64 (t356 - t354)) else (wrap64 (t354 - t356))) = ji75 := hji75
          obtain rfl := Option.some.inj H
          have hnb76 := NB349_350.out
          have hnc76 := NB350_349.out
          have hcz77_0 : wr.cell? ⟨gb349, 0, none⟩ = some (.int .i64 a0_0) := (blk_cell BK349.out 0).trans rfl
          have hcz77_1 : wr.cell? ⟨gb349, 1, none⟩ = some (.int .i64 a0_1) := (blk_cell BK349.out 1).trans rfl
          have hcz77_2 : wr.cell? ⟨gb349, 2, none⟩ = some (.int .i64 a0_2) := (blk_cell BK349.out 2).trans rfl
          have hcz77_3 : wr.cell? ⟨gb349, 3, none⟩ = some (.slice A0_3 l0_3.length c0_3) := (blk_cell BK349.out 3).trans rfl
          have hcz77_4 : wr.cell? ⟨gb349, 4, none⟩ = some (.slice A0_4 l0_4.length c0_4) := (blk_cell BK349.out 4).trans rfl
          have hfz77_0 := blk_frozen BK349.out 0
          have hfz77_1 := blk_frozen BK349.out 1
          have hfz77_2 := blk_frozen BK349.out 2
          have hfz77_3 := blk_frozen BK349.out 3
          have hfz77_4 := blk_frozen BK349.out 4
          have hcz78_0 : wr.cell? ⟨gb350, 0, none⟩ = some (u351000) := (blk_cell BK350.out 0).trans rfl
          have hcz78_1 : wr.cell? ⟨gb350, 1, none⟩ = some (.int .i64 x351001_2) := (blk_cell BK350.out 1).trans rfl
          have hfz78_0 := blk_frozen BK350.out 0
          have hfz78_1 := blk_frozen BK350.out 1
          obtain ⟨Ao79, co79, eo79⟩ := Kd.V_slice HO_351000.out
          subst eo79
          go_wp2_with (first | ((with_reducible refine gate_callee (f := 18) rfl ?_); refine goesL_ (some 89) rfl rfl Try.func18 (by kernel_rfl) rfl #[.agg #[.int .i64 a0_0, .int .i64 a0_1, .int .i64 a0_2, .slice A0_3 l0_3.length c0_3, .slice A0_4 l0_4.length c0_4], .slice A1 l1.length c1, .agg #[.slice Ao79 x351000_2.length co79, .int .i64 x351001_2], .int .i64 a3] rfl (by (try simp only [List.map_toArray, List.map_cons, List.map_nil]); first | done | rfl | (simp only [List.length_drop, List.length_take]; rfl)) ?_; (with_reducible refine (puzzle_Least.calls k2 a0_0 a0_1 a0_2 _ _ l0_3 _ _ l0_4 _ _ l1 _ _ x351000_2 x351001_2 a3 t356 t357 _ ?side1 ?side2 ?side3 ?side4 ?side5 ?side6 ?side7 ?side8 A72.out).mono ?_); (case side1 => repeat (first | exact (Kd.C_below HR0_3.out HB.out) | (with_reducible refine Kd.C_alloc ?_ _) | (with_reducible refine Kd.C_drewN ?_ _) | (with_reducible refine Kd.C_drew ?_))); (case side2 => exact HC0_3.out); (case side3 => repeat (first | exact (Kd.C_below HR0_4.out HB.out) | (with_reducible refine Kd.C_alloc ?_ _) | (with_reducible refine Kd.C_drewN ?_ _) | (with_reducible refine Kd.C_drew ?_))); (case side4 => exact HC0_4.out); (case side5 => repeat (first | exact (Kd.C_below HR1.out HB.out) | (with_reducible refine Kd.C_alloc ?_ _) | (with_reducible refine Kd.C_drewN ?_ _) | (with_reducible refine Kd.C_drew ?_))); (case side6 => exact HC1.out); (case side7 => repeat (first | exact (Kd.V_reads' HO_351000.out).2.2 | (with_reducible refine Kd.C_alloc ?_ _) | (with_reducible refine Kd.C_drewN ?_ _) | (with_reducible refine Kd.C_drew ?_))); (case side8 => exact (Kd.V_reads' HO_351000.out).2.1); rintro e w80 ⟨rfl, hb⟩; refine ⟨_, rfl, ?_⟩; have n0_ := Aside0.mk (Kd.V_below (by (with_reducible repeat (first | apply Kd.V_alloc | apply Kd.V_drewN | apply Kd.V_drew)); exact HO_351000.out) hb); have n1_ := Aside0.mk (blk_below (g := gb349) (o := .cells #[.int .i64 a0_0, .int .i64 a0_1, .int .i64 a0_2, .slice A0_3 l0_3.length c0_3, .slice A0_4 l0_4.length c0_4] 24 (0, 0)) (by (with_reducible repeat (first | refine blk_drewN ?_ _ | refine blk_drew ?_ | refine blk_alloc ?_ _)); exact BK349.out) hb); have n2_ := Aside0.mk (blk_below (g := gb350) (o := .cells #[.slice Ao79 x351000_2.length co79, .int .i64 x351001_2] 27 (0, 0)) (by (with_reducible repeat (first | refine blk_drewN ?_ _ | refine blk_drew ?_ | refine blk_alloc ?_ _)); exact BK350.out) hb); have n3_ := Aside0.mk (below_step (by repeat (first | (with_reducible first | exact HB.out | apply below_alloc | apply pw_below_drewN | apply below_drew1 | refine below_set ?_ GE349.out | refine below_set ?_ GE350.out) | exact HB.out)) hb); clear HO_351000; clear BK349; clear BK350; clear HB; have HO_351000 := n0_; have BK349 := n1_; have BK350 := n2_; have HB := n3_; clear n0_ n1_ n2_ n3_; (try clear hb); (try clear hb2); (try clear hk); (try clear hi)))
          go_ret
          exact ⟨by first | rfl | (simp [errW_none, errW_some] <;> rfl) | (simp only [← hji75]; first | rfl | (simp [errW_none, errW_some] <;> rfl)) | (simp [*, errW_none, errW_some] <;> rfl), by repeat (first | (with_reducible first | exact HB.out | apply below_alloc | apply pw_below_drewN | apply below_drew1 | refine below_set ?_ GE349.out | refine below_set ?_ GE350.out) | exact HB.out)⟩
         ·rw [if_neg c74] at H
          have c74b0 : (t355 == t357) = false := beq_eq_false_iff_ne.mpr c74
          have c74b1 : (t355 != t357) = true := bne_iff_ne.mpr c74
          obtain rfl := Option.some.inj H
          have hnb81 := NB349_350.out
          have hnc81 := NB350_349.out
          have hcz82_0 : wr.cell? ⟨gb349, 0, none⟩ = some (.int .i64 a0_0) := (blk_cell BK349.out 0).trans rfl
          have hcz82_1 : wr.cell? ⟨gb349, 1, none⟩ = some (.int .i64 a0_1) := (blk_cell BK349.out 1).trans rfl
          have hcz82_2 : wr.cell? ⟨gb349, 2, none⟩ = some (.int .i64 a0_2) := (blk_cell BK349.out 2).trans rfl
          have hcz82_3 : wr.cell? ⟨gb349, 3, none⟩ = some (.slice A0_3 l0_3.length c0_3) := (blk_cell BK349.out 3).trans rfl
          have hcz82_4 : wr.cell? ⟨gb349, 4, none⟩ = some (.slice A0_4 l0_4.length c0_4) := (blk_cell BK349.out 4).trans rfl
          have hfz82_0 := blk_frozen BK349.out 0
          have hfz82_1 := blk_frozen BK349.out 1
          have hfz82_2 := blk_frozen BK349.out 2
          have hfz82_3 := blk_frozen BK349.out 3
          have hfz82_4 := blk_frozen BK349.out 4
          have hcz83_0 : wr.cell? ⟨gb350, 0, none⟩ = some (u351000) := (blk_cell BK350.out 0).trans rfl
          have hcz83_1 : wr.cell? ⟨gb350, 1, none⟩ = some (.int .i64 x351001_2) := (blk_cell BK350.out 1).trans rfl
          have hfz83_0 := blk_frozen BK350.out 0
          have hfz83_1 := blk_frozen BK350.out 1
          obtain ⟨Ao84, co84, eo84⟩ := Kd.V_slice HO_351000.out
          subst eo84
          go_wp2_with (first | ((with_reducible refine gate_callee (f := 18) rfl ?_); refine goesL_ (some 89) rfl rfl Try.func18 (by kernel_rfl) rfl #[.agg #[.int .i64 a0_0, .int .i64 a0_1, .int .i64 a0_2, .slice A0_3 l0_3.length c0_3, .slice A0_4 l0_4.length c0_4], .slice A1 l1.length c1, .agg #[.slice Ao84 x351000_2.length co84, .int .i64 x351001_2], .int .i64 a3] rfl (by (try simp only [List.map_toArray, List.map_cons, List.map_nil]); first | done | rfl | (simp only [List.length_drop, List.length_take]; rfl)) ?_; (with_reducible refine (puzzle_Least.calls k2 a0_0 a0_1 a0_2 _ _ l0_3 _ _ l0_4 _ _ l1 _ _ x351000_2 x351001_2 a3 t356 t357 _ ?side1 ?side2 ?side3 ?side4 ?side5 ?side6 ?side7 ?side8 A72.out).mono ?_); (case side1 => repeat (first | exact (Kd.C_below HR0_3.out HB.out) | (with_reducible refine Kd.C_alloc ?_ _) | (with_reducible refine Kd.C_drewN ?_ _) | (with_reducible refine Kd.C_drew ?_))); (case side2 => exact HC0_3.out); (case side3 => repeat (first | exact (Kd.C_below HR0_4.out HB.out) | (with_reducible refine Kd.C_alloc ?_ _) | (with_reducible refine Kd.C_drewN ?_ _) | (with_reducible refine Kd.C_drew ?_))); (case side4 => exact HC0_4.out); (case side5 => repeat (first | exact (Kd.C_below HR1.out HB.out) | (with_reducible refine Kd.C_alloc ?_ _) | (with_reducible refine Kd.C_drewN ?_ _) | (with_reducible refine Kd.C_drew ?_))); (case side6 => exact HC1.out); (case side7 => repeat (first | exact (Kd.V_reads' HO_351000.out).2.2 | (with_reducible refine Kd.C_alloc ?_ _) | (with_reducible refine Kd.C_drewN ?_ _) | (with_reducible refine Kd.C_drew ?_))); (case side8 => exact (Kd.V_reads' HO_351000.out).2.1); rintro e w85 ⟨rfl, hb⟩; refine ⟨_, rfl, ?_⟩; have n0_ := Aside0.mk (Kd.V_below (by (with_reducible repeat (first | apply Kd.V_alloc | apply Kd.V_drewN | apply Kd.V_drew)); exact HO_351000.out) hb); have n1_ := Aside0.mk (blk_below (g := gb349) (o := .cells #[.int .i64 a0_0, .int .i64 a0_1, .int .i64 a0_2, .slice A0_3 l0_3.length c0_3, .slice A0_4 l0_4.length c0_4] 24 (0, 0)) (by (with_reducible repeat (first | refine blk_drewN ?_ _ | refine blk_drew ?_ | refine blk_alloc ?_ _)); exact BK349.out) hb); have n2_ := Aside0.mk (blk_below (g := gb350) (o := .cells #[.slice Ao84 x351000_2.length co84, .int .i64 x351001_2] 27 (0, 0)) (by (with_reducible repeat (first | refine blk_drewN ?_ _ | refine blk_drew ?_ | refine blk_alloc ?_ _)); exact BK350.out) hb); have n3_ := Aside0.mk (below_step (by repeat (first | (with_reducible first | exact HB.out | apply below_alloc | apply pw_below_drewN | apply below_drew1 | refine below_set ?_ GE349.out | refine below_set ?_ GE350.out) | exact HB.out)) hb); clear HO_351000; clear BK349; clear BK350; clear HB; have HO_351000 := n0_; have BK349 := n1_; have BK350 := n2_; have HB := n3_; clear n0_ n1_ n2_ n3_; (try clear hb); (try clear hb2); (try clear hk); (try clear hi)))
          go_ret
          exact ⟨by first | rfl | (simp [errW_none, errW_some] <;> rfl) | (simp [*, errW_none, errW_some] <;> rfl), by repeat (first | (with_reducible first | exact HB.out | apply below_alloc | apply pw_below_drewN | apply below_drew1 | refine below_set ?_ GE349.out | refine below_set ?_ GE350.out) | exact HB.out)⟩
        ·replace c73 := Bool.eq_false_iff.mpr c73
         subst c73
         have H1 : (some false) = some r := by rw [if_neg (show ¬ (false = true) by decide)] at H; exact H
         clear H
         have H := H1
         clear H1
         obtain rfl := Option.some.inj H
         have hnb86 := NB349_350.out
         have hnc86 := NB350_349.out
         have hcz87_0 : wr.cell? ⟨gb349, 0, none⟩ = some (.int .i64 a0_0) := (blk_cell BK349.out 0).trans rfl
         have hcz87_1 : wr.cell? ⟨gb349, 1, none⟩ = some (.int .i64 a0_1) := (blk_cell BK349.out 1).trans rfl
         have hcz87_2 : wr.cell? ⟨gb349, 2, none⟩ = some (.int .i64 a0_2) := (blk_cell BK349.out 2).trans rfl
         have hcz87_3 : wr.cell? ⟨gb349, 3, none⟩ = some (.slice A0_3 l0_3.length c0_3) := (blk_cell BK349.out 3).trans rfl
         have hcz87_4 : wr.cell? ⟨gb349, 4, none⟩ = some (.slice A0_4 l0_4.length c0_4) := (blk_cell BK349.out 4).trans rfl
         have hfz87_0 := blk_frozen BK349.out 0
         have hfz87_1 := blk_frozen BK349.out 1
         have hfz87_2 := blk_frozen BK349.out 2
         have hfz87_3 := blk_frozen BK349.out 3
         have hfz87_4 := blk_frozen BK349.out 4
         have hcz88_0 : wr.cell? ⟨gb350, 0, none⟩ = some (u351000) := (blk_cell BK350.out 0).trans rfl
         have hcz88_1 : wr.cell? ⟨gb350, 1, none⟩ = some (.int .i64 x351001_2) := (blk_cell BK350.out 1).trans rfl
         have hfz88_0 := blk_frozen BK350.out 0
         have hfz88_1 := blk_frozen BK350.out 1
         obtain ⟨Ao89, co89, eo89⟩ := Kd.V_slice HO_351000.out
         subst eo89
         go_wp2_with (first | ((with_reducible refine gate_callee (f := 18) rfl ?_); refine goesL_ (some 89) rfl rfl Try.func18 (by kernel_rfl) rfl #[.agg #[.int .i64 a0_0, .int .i64 a0_1, .int .i64 a0_2, .slice A0_3 l0_3.length c0_3, .slice A0_4 l0_4.length c0_4], .slice A1 l1.length c1, .agg #[.slice Ao89 x351000_2.length co89, .int .i64 x351001_2], .int .i64 a3] rfl (by (try simp only [List.map_toArray, List.map_cons, List.map_nil]); first | done | rfl | (simp only [List.length_drop, List.length_take]; rfl)) ?_; (with_reducible refine (puzzle_Least.calls k2 a0_0 a0_1 a0_2 _ _ l0_3 _ _ l0_4 _ _ l1 _ _ x351000_2 x351001_2 a3 t356 t357 _ ?side1 ?side2 ?side3 ?side4 ?side5 ?side6 ?side7 ?side8 A72.out).mono ?_); (case side1 => repeat (first | exact (Kd.C_below HR0_3.out HB.out) | (with_reducible refine Kd.C_alloc ?_ _) | (with_reducible refine Kd.C_drewN ?_ _) | (with_reducible refine Kd.C_drew ?_))); (case side2 => exact HC0_3.out); (case side3 => repeat (first | exact (Kd.C_below HR0_4.out HB.out) | (with_reducible refine Kd.C_alloc ?_ _) | (with_reducible refine Kd.C_drewN ?_ _) | (with_reducible refine Kd.C_drew ?_))); (case side4 => exact HC0_4.out); (case side5 => repeat (first | exact (Kd.C_below HR1.out HB.out) | (with_reducible refine Kd.C_alloc ?_ _) | (with_reducible refine Kd.C_drewN ?_ _) | (with_reducible refine Kd.C_drew ?_))); (case side6 => exact HC1.out); (case side7 => repeat (first | exact (Kd.V_reads' HO_351000.out).2.2 | (with_reducible refine Kd.C_alloc ?_ _) | (with_reducible refine Kd.C_drewN ?_ _) | (with_reducible refine Kd.C_drew ?_))); (case side8 => exact (Kd.V_reads' HO_351000.out).2.1); rintro e w90 ⟨rfl, hb⟩; refine ⟨_, rfl, ?_⟩; have n0_ := Aside0.mk (Kd.V_below (by (with_reducible repeat (first | apply Kd.V_alloc | apply Kd.V_drewN | apply Kd.V_drew)); exact HO_351000.out) hb); have n1_ := Aside0.mk (blk_below (g := gb349) (o := .cells #[.int .i64 a0_0, .int .i64 a0_1, .int .i64 a0_2, .slice A0_3 l0_3.length c0_3, .slice A0_4 l0_4.length c0_4] 24 (0, 0)) (by (with_reducible repeat (first | refine blk_drewN ?_ _ | refine blk_drew ?_ | refine blk_alloc ?_ _)); exact BK349.out) hb); have n2_ := Aside0.mk (blk_below (g := gb350) (o := .cells #[.slice Ao89 x351000_2.length co89, .int .i64 x351001_2] 27 (0, 0)) (by (with_reducible repeat (first | refine blk_drewN ?_ _ | refine blk_drew ?_ | refine blk_alloc ?_ _)); exact BK350.out) hb); have n3_ := Aside0.mk (below_step (by repeat (first | (with_reducible first | exact HB.out | apply below_alloc | apply pw_below_drewN | apply below_drew1 | refine below_set ?_ GE349.out | refine below_set ?_ GE350.out) | exact HB.out)) hb); clear HO_351000; clear BK349; clear BK350; clear HB; have HO_351000 := n0_; have BK349 := n1_; have BK350 := n2_; have HB := n3_; clear n0_ n1_ n2_ n3_; (try clear hb); (try clear hb2); (try clear hk); (try clear hi)))
         go_ret
         exact ⟨by first | rfl | (simp [errW_none, errW_some] <;> rfl) | (simp [*, errW_none, errW_some] <;> rfl), by repeat (first | (with_reducible first | exact HB.out | apply below_alloc | apply pw_below_drewN | apply below_drew1 | refine below_set ?_ GE349.out | refine below_set ?_ GE350.out) | exact HB.out)⟩
end Go.Proofs.Ytogmjilaiopjmaa.P
end
section
set_option linter.unusedVariables false
set_option linter.unusedSimpArgs false
namespace Go.Proofs.Ytogmjilaiopjmaa.P
open Go.RowKit Go.Proofs.YtogmjilaiopjmaaW.PrintWords Go.Proofs.YtogmjilaiopjmaaW.PrintLast Go.Proofs.YtogmjilaiopjmaaW.PrintMore
set_option linter.unusedVariables false
set_option linter.unusedSimpArgs false
section
variable {W H D : Int} {K O r picks : List Int} {n k g : Nat} {out : List Int}
def SymR (W H D : Int) (K O r : List Int) : Prop := ∀ i j, i < r.length → j < r.length → gets W H D K O (r.getD i 0) (r.getD j 0) = gets W H D K O (r.getD j 0) (r.getD i 0)
mutual
theorem open_l0 (hf : FloorOk W H D K O) (hr : r.length ≤ 100) (m : Nat) (k2 i : Nat) (hi : i + m = r.length) (hk : m * (r.length + 2) + 20 < k2) :
  ∃ b, taquinlaw26_open.l0 k2 r (i : Int) W H D K O = some b ∧ (b = true → ∀ a c, i ≤ a → a < r.length → c < r.length → gets W H D K O (r.getD a 0) (r.getD c 0) = gets W H D K O (r.getD c 0) (r.getD a 0)) := by
 obtain ⟨k2, rfl⟩ : ∃ z, k2 = z + 1 := ⟨k2 - 1, by omega⟩
 match m with
 | 0 =>
  refine ⟨true, ?_, fun _ a c h1 h2 _ => by omega⟩
  simp only [taquinlaw26_open.l0]
  rw [if_neg (by omega)]
 | m + 1 =>
  have hm : (m + 1) * (r.length + 2) = m * (r.length + 2) + (r.length + 2) := by rw [Nat.add_mul, Nat.one_mul]
  obtain ⟨b, h1, h2⟩ := open_l1 hf hr m r.length k2 i 0 (by omega) (by omega) (by omega)
  refine ⟨b, ?_, fun hb a c h3 h4 h5 => ?_⟩
  ·simp only [taquinlaw26_open.l0]
   rw [if_pos (by omega)]
   exact h1
  ·obtain ⟨h6, h7⟩ := h2 hb
   by_cases e : a = i
   ·subst e; exact h6 c (by omega) h5
   ·exact h7 a c (by omega) h4 h5
 termination_by (m, 0)
theorem open_l1 (hf : FloorOk W H D K O) (hr : r.length ≤ 100) (m q : Nat) (k2 i j : Nat) (hi : i + m + 1 = r.length) (hj : j + q = r.length) (hk : m * (r.length + 2) + q + 21 < k2) :
  ∃ b, taquinlaw26_open.l1 k2 r (i : Int) (j : Int) W H D K O = some b ∧ (b = true → (∀ c, j ≤ c → c < r.length → gets W H D K O (r.getD i 0) (r.getD c 0) = gets W H D K O (r.getD c 0) (r.getD i 0)) ∧ ∀ a c, i + 1 ≤ a → a < r.length → c < r.length → gets W H D K O (r.getD a 0) (r.getD c 0) = gets W H D K O (r.getD c 0) (r.getD a 0)) := by
 obtain ⟨k2, rfl⟩ : ∃ z, k2 = z + 1 := ⟨k2 - 1, by omega⟩
 match q with
 | 0 =>
  obtain ⟨b, h1, h2⟩ := open_l0 hf hr m k2 (i + 1) (by omega) (by omega)
  refine ⟨b, ?_, fun hb => ⟨fun c h3 h4 => by omega, h2 hb⟩⟩
  simp only [taquinlaw26_open.l1]
  rw [if_neg (by omega), wrap_nat (by omega)]
  exact h1
 | q + 1 =>
  obtain ⟨b, h1, h2⟩ := open_l1 hf hr m q k2 i (j + 1) (by omega) (by omega) (by omega)
  have e1 : rd r (i : Int) = r.getD i 0 := by unfold rd; rw [Int.toNat_natCast]
  have e2 : rd r (j : Int) = r.getD j 0 := by unfold rd; rw [Int.toNat_natCast]
  by_cases e : gets W H D K O (r.getD i 0) (r.getD j 0) = gets W H D K O (r.getD j 0) (r.getD i 0)
  ·refine ⟨b, ?_, fun hb => ⟨fun c h3 h4 => ?_, (h2 hb).2⟩⟩
   ·simp only [taquinlaw26_open.l1]
    rw [if_pos (by omega), if_pos (by omega), if_pos (by omega), if_pos (by omega), e1, e2, hf.gets_f _ _ _ (by omega), Option.bind_some, hf.gets_f _ _ _ (by omega), Option.bind_some, e, if_neg (by simp), wrap_nat (by omega)]
    exact h1
   ·by_cases e3 : c = j
    ·subst e3; exact e
    ·exact (h2 hb).1 c (by omega) h4
  ·refine ⟨false, ?_, fun hb => by cases hb⟩
   simp only [taquinlaw26_open.l1]
   rw [if_pos (by omega), if_pos (by omega), if_pos (by omega), if_pos (by omega), e1, e2, hf.gets_f _ _ _ (by omega), Option.bind_some, hf.gets_f _ _ _ (by omega), Option.bind_some, if_pos (bne_iff_ne.2 e)]
 termination_by (m, q + 1)
end
theorem open_f (hf : FloorOk W H D K O) (hr : r.length ≤ 14) : ∃ b, taquinlaw26_open.f 5000 W H D K O r = some b ∧ (b = true → SymR W H D K O r) := by
 have hb : r.length * (r.length + 2) ≤ 14 * 16 := Nat.mul_le_mul hr (by omega)
 obtain ⟨b, h1, h2⟩ := open_l0 (r := r) hf (by omega) r.length 5000 0 (by omega) (by omega)
 exact ⟨b, h1, fun hb i j hi hj => h2 hb i j (by omega) hi hj⟩
theorem edge_symm (hy : SymR W H D K O r) (hr : r.length = n) (hk : 1 ≤ k) (hk2 : k ≤ n) {x y : Nat} (hx : x < cntN n k) (h : Edge W H D K O r n k x y) : Edge W H D K O r n k y x := by
 obtain ⟨i, j, hi, hj, h1, h2, hg, rfl⟩ := h
 obtain ⟨a, b, c⟩ := edge_lt hk hk2 hx hi hj h1 h2
 have hl := unrL_len hx
 obtain ⟨_, ht⟩ := unrL_right hk hk2 hx
 have hij : i ≠ j := fun e => by rw [e, h2] at h1; cases h1
 refine ⟨j, i, hj, hi, ?_, ?_, ?_, ?_⟩
 ·rw [b, moveL_get (by omega) (by omega), if_pos rfl]
 ·rw [b, moveL_get (by omega) (by omega), if_neg hij, if_pos rfl]
 ·rw [← hy i j (by omega) (by omega)]; exact hg
 ·rw [b, c, moveL_inv (by omega) (by omega) h1 h2, moveT_inv ht h2, rank_unr hk hk2 hx]
structure Near (out : List Int) (x0 x : Nat) (s : Nat) : Prop where
 yes : 0 ≤ out.getD x0 0 → 0 ≤ out.getD x 0 ∧ out.getD x 0 ≤ out.getD x0 0 + s ∧ out.getD x0 0 ≤ out.getD x 0 + s
 no : out.getD x0 0 < 0 → out.getD x 0 < 0
theorem Near.step (hok : TableOk W H D K O r n k (g : Int) out) (hy : SymR W H D K O r) (hr : r.length = n) (hk : 1 ≤ k) (hk2 : k ≤ n) {x0 x y s : Nat} (h : Near out x0 x s) (hx : x < cntN n k) (hyl : y < cntN n k) (he : Edge W H D K O r n k x y) : Near out x0 y (s + 1) := by
 have he2 := edge_symm hy hr hk hk2 hx he
 constructor
 ·intro h0
  obtain ⟨a, b, c⟩ := h.yes h0
  obtain ⟨d, e⟩ := hok.closed x y hx hyl he2 a
  obtain ⟨_, f⟩ := hok.closed y x hyl hx he d
  exact ⟨d, by omega, by omega⟩
 ·intro h0
  have a := h.no h0
  by_cases hc : 0 ≤ out.getD y 0
  ·have := (hok.closed y x hyl hx he hc).1
   omega
  ·omega
theorem back_l0 (hf : FloorOk W H D K O) (hs : r.Pairwise (· < ·)) (hr : r.length = n) (hn : n ≤ 12) (hg : g < n) (hT : puzzle_Table.f W H D K O r (k : Int) (g : Int) = some (out, 0)) (hok : TableOk W H D K O r n k (g : Int) out) (hy : SymR W H D K O r) (hp : picks.length ≤ 1000) {x0 : Nat} (hx0 : x0 < cntN n k) {d0 e0 : Int} (hde : (d0, e0) = (if out.getD x0 0 < 0 then ((0 : Int), (14 : Int)) else (out.getD x0 0, 0))) :
  ∀ (m K2 i s : Nat) (l : List Bool) (t x : Nat), i + m = picks.length → s ≤ i → m + 40 < K2 → Lay n k l t x → Near out x0 x s →
   taquinlaw26_PuzzleBack.l0 K2 r (g : Int) picks true d0 e0 (s : Int) (i : Int) W H D K O l (t : Int) = some true
 | m, 0, _, _, _, _, _, _, _, h, _, _ => by omega
 | 0, K2 + 1, i, s, l, t, x, hi, hsi, hK, hl, hN => by
  rw [taquinlaw26_PuzzleBack.l0]
  rw [if_neg (by omega)]
  have hL : okL l (t : Int) = true := okL_right (by rw [hl.len]; omega) (by rw [hl.len]; exact hl.lt) hl.at_
  obtain ⟨out', t1, t2, t3⟩ := least_f hf hs hL (by rw [hl.len, hr]) (by omega) (show g < r.length by omega) K2 (by omega)
  rw [hl.sh, hT] at t1
  injection t1 with t1
  injection t1 with t1 _
  subst t1
  rw [Int.toNat_natCast, hl.rank] at t3
  rw [t3, Option.bind_some]
  have b1 := hok.lo x0 hx0
  have b2 := hok.hi x0 hx0
  have b3 := hok.lo x hl.x_lt
  have b4 := hok.hi x hl.x_lt
  by_cases h0 : out.getD x0 0 < 0
  ·rw [if_pos h0] at hde
   injection hde with h1 h2
   subst h1 h2
   rw [if_pos (hN.no h0)]
   dsimp only
   rw [if_pos rfl, if_pos rfl]
   congr 1
   apply decide_eq_true
   simp [mx, wrap64]
  ·rw [if_neg h0] at hde
   injection hde with h1 h2
   subst h1 h2
   obtain ⟨c1, c2, c3⟩ := hN.yes (by omega)
   rw [if_neg (show ¬ out.getD x 0 < 0 by omega)]
   dsimp only
   rw [if_pos rfl, if_pos rfl]
   congr 1
   apply decide_eq_true
   unfold mx wrap64
   split <;> omega
 | m + 1, K2 + 1, i, s, l, t, x, hi, hsi, hK, hl, hN => by
  rw [taquinlaw26_PuzzleBack.l0]
  rw [if_pos (by omega), hl.shifts_f hf hs hr (by omega), Option.bind_some]
  obtain ⟨ss, hss⟩ : ∃ ss, ss = shiftsN W H D K O r l true := ⟨_, rfl⟩
  rw [← hss]
  by_cases h2 : (ss.length : Int) > 0
  ·rw [if_pos h2, if_pos (by omega), if_neg (by omega)]
   obtain ⟨q1, q2⟩ := pick_in (rd picks (i : Int)) ss.length (by omega)
   rw [if_pos q1, if_pos q2]
   obtain ⟨l', t', y, e1, hl', hE⟩ := hl.shift hr (by omega) (show rd_T51 ss ((mx (rd picks (i : Int)) 0) % (ss.length : Int)) ∈ shiftsN W H D K O r l true by rw [← hss]; exact rd51_mem q1 q2)
   rw [e1, Option.bind_some, wrap_nat (by omega), wrap_nat (by omega)]
   exact back_l0 hf hs hr hn hg hT hok hy hp hx0 hde m K2 (i + 1) (s + 1) l' t' y (by omega) (by omega) (by omega) hl' (hN.step hok hy hr hl.k1 hl.kn hl.x_lt hl'.x_lt hE)
  ·rw [if_neg h2, wrap_nat (by omega)]
   exact back_l0 hf hs hr hn hg hT hok hy hp hx0 hde m K2 (i + 1) s l t x (by omega) (by omega) (by omega) hl hN
end
theorem back_true (W H D : Int) (K O r : List Int) (l : List Bool) (t goal : Int) (picks : List Int) : ∃ k, taquinlaw26_PuzzleBack.f k W H D K O r l t goal picks = some true := by
 refine ⟨5000, ?_⟩
 unfold taquinlaw26_PuzzleBack.f taquinlaw26_small.f
 rw [Option.bind_some]
 obtain ⟨b, hb, hfair⟩ := fair_f W H D K O r l t
 rw [hb, Option.bind_some]
 have hj : taquinlaw26_PuzzleBack.j0 5000 r goal picks true true W H D K O l t = some true := by simp [taquinlaw26_PuzzleBack.j0]
 cases b with
 | false => simpa using hj
 | true =>
  rw [if_pos rfl]
  obtain ⟨hf, hs, _, hl, hlen⟩ := hfair rfl
  by_cases h9 : (r.length : Int) > 9
  ·rw [if_pos h9]; exact hj
  rw [if_neg h9]
  by_cases hp : (picks.length : Int) > 50
  ·rw [if_pos hp]; exact hj
  rw [if_neg hp]
  obtain ⟨b2, ho, hsym⟩ := open_f (r := r) hf (by omega)
  rw [ho, Option.bind_some]
  cases b2 with
  | false => exact hj
  | true =>
   simp only [taquinlaw26_PuzzleBack.j0]
   rw [if_neg (by simp)]
   by_cases hg : goal < 0 ∨ (r.length : Int) ≤ goal
   ·rw [least_range hl hlen (by omega) hg _ (by omega), Option.bind_some]
    simp
   obtain ⟨g, rfl⟩ : ∃ g : Nat, goal = (g : Int) := ⟨goal.toNat, by omega⟩
   obtain ⟨out, hT, hok, hle⟩ := least_f hf hs hl hlen (by omega) (show g < r.length by omega) 4999 (by omega)
   rw [hle, Option.bind_some]
   obtain ⟨d0, e0, hde⟩ : ∃ d0 e0, (d0, e0) = (if out.getD (rankN l t.toNat) 0 < 0 then ((0 : Int), (14 : Int)) else (out.getD (rankN l t.toNat) 0, 0)) := ⟨_, _, rfl⟩
   rw [← hde]
   dsimp only
   have hL := Lay.of_ok hl
   rw [hlen] at hL
   have hT2 : ((t.toNat : Nat) : Int) = t := by have := (okL_iff.1 hl).2.2.1; omega
   rw [← hT2]
   have he : e0 ≠ 3 := by
    split at hde <;> (injection hde with h1 h2; omega)
   rw [if_neg he]
   exact back_l0 hf hs rfl (by omega) (by omega) hT hok (hsym rfl) (by omega) hL.x_lt hde picks.length 4999 0 0 l t.toNat _ (by omega) (by omega) (by omega) hL ⟨fun h => ⟨h, by omega, by omega⟩, fun h => h⟩
end Go.Proofs.Ytogmjilaiopjmaa.P
end
section
set_option linter.unusedVariables false
set_option linter.unusedSimpArgs false
namespace Go.Proofs.Ytogmjilaiopjmaa.P
open Go.RowKit Go.Proofs.YtogmjilaiopjmaaW.PrintWords Go.Proofs.YtogmjilaiopjmaaW.PrintLast Go.Proofs.YtogmjilaiopjmaaW.PrintMore
theorem puzzleBack_walk {a0_0 a0_1 a0_2 : Int} {A0_3 : Option Addr} {c0_3 : Nat} {l0_3 : List Int} {A0_4 : Option Addr} {c0_4 : Nat} {l0_4 : List Int} {A1 : Option Addr} {c1 : Nat} {l1 : List Int} {A2 : Option Addr} {c2 : Nat} {l2 : List Bool} {t goal : Int} {A4 : Option Addr} {c4 : Nat} {l4 : List Int} (w : World)
  (hr0_3 : ReadsInt w .i64 A0_3 l0_3.length l0_3) (hc0_3 : l0_3.length ≤ c0_3) (hr0_4 : ReadsInt w .i64 A0_4 l0_4.length l0_4) (hc0_4 : l0_4.length ≤ c0_4) (hr1 : ReadsInt w .i64 A1 l1.length l1) (hc1 : l1.length ≤ c1) (_ : l1.length ≤ maxLen) (hr2 : ReadsOf Value.bool false w A2 l2.length l2) (hc2 : l2.length ≤ c2) (_ : (Lit.int .i64 t).wf = true) (_ : (Lit.int .i64 goal).wf = true) (hr4 : ReadsInt w .i64 A4 l4.length l4) (hc4 : l4.length ≤ c4) (_ : l4.length ≤ maxLen) :
  Calls Try.prog 7 #[.agg #[.int .i64 a0_0, .int .i64 a0_1, .int .i64 a0_2, .slice A0_3 l0_3.length c0_3, .slice A0_4 l0_4.length c0_4], .slice A1 l1.length c1, .agg #[.slice A2 l2.length c2, .int .i64 t], .int .i64 goal, .slice A4 l4.length c4] w fun e w' => e = .returned (.bool true) ∧ Below w.heap.size w w' := by
 obtain ⟨k, h⟩ := back_true a0_0 a0_1 a0_2 l0_3 l0_4 l1 l2 t goal l4
 exact taquinlaw26_PuzzleBack.calls k _ _ _ _ _ _ _ _ _ _ _ _ (fun _ => True) _ _ _ _ _ _ _ _ true w (Kd.C_of_reads (d := (0 : Int)) (h1 := fun _ => rfl) hr0_3) hc0_3 (Kd.C_of_reads (d := (0 : Int)) (h1 := fun _ => rfl) hr0_4) hc0_4 (Kd.C_of_reads (d := (0 : Int)) (h1 := fun _ => rfl) hr1) hc1 (V_in hr2 hc2) (Kd.C_of_reads (d := (0 : Int)) (h1 := fun _ => rfl) hr4) hc4 h
end Go.Proofs.Ytogmjilaiopjmaa.P
end
