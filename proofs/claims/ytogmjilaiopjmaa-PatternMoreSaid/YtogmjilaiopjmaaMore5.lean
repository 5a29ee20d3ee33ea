/- Lemmas for the row of this claim: contracts of the functions that it reaches, and plain laws about numbers and lists. -/
import Derived.Test.YtogmjilaiopjmaaMore4
import Derived.Outline
import Derived.Deep.MidRow
set_option linter.unusedVariables false
set_option linter.unusedSimpArgs false
section
namespace Go.Proofs.Ytogmjilaiopjmaa.P
open Go.RowKit Go.Proofs.YtogmjilaiopjmaaW.PrintWords Go.Proofs.YtogmjilaiopjmaaW.PrintLast Go.Proofs.YtogmjilaiopjmaaW.PrintMore
def stepsL : List Value := [.int .i64 1, .int .i64 0, .int .i64 0, .int .i64 0, .int .i64 1, .int .i64 0, .int .i64 (-1), .int .i64 0, .int .i64 0, .int .i64 0, .int .i64 (-1), .int .i64 0, .int .i64 0, .int .i64 0, .int .i64 1, .int .i64 0, .int .i64 0, .int .i64 (-1)]
theorem stepsL_one : stepsL.toArray.all (·.oneCell') = true := by simp [stepsL, Value.oneCell']
def zeros18 : Array Value := #[.int .i64 0, .int .i64 0, .int .i64 0, .int .i64 0, .int .i64 0, .int .i64 0, .int .i64 0, .int .i64 0, .int .i64 0, .int .i64 0, .int .i64 0, .int .i64 0, .int .i64 0, .int .i64 0, .int .i64 0, .int .i64 0, .int .i64 0, .int .i64 0]
theorem zeros131_size : zeros18.size = 18 := rfl
theorem there_of_blk {w : World} {g n t : Nat} {A : Array Value} (h : w.heap[g]? = some (.cells A t (0, 0))) (hn : n ≤ A.size) : w.there g 0 n := by
 intro j hj; refine ⟨?_, blk_frozen h _⟩; rw [blk_cell h, Array.getElem?_eq_getElem (by omega)]; rfl
theorem size131 : (Try.prog.info? 131).map (·.size) = some 18 := by kernel_rfl
theorem results_mid {fn : Func} {p : Tmp} {ty : TypeId} (h : fn.results = #[.cell p ty]) (tmps : Array Value) (w : World) (g : Nat) (cs : List Value) (d : TypeDesc)
  (hp : tmps.getD p undef = .pointer (some ⟨g, 0, none⟩)) (hc : w.rangeAt g 0 cs) (hu : Try.prog.underlying ty = some d) (hd : d.isRow = true) (hi : (Try.prog.info? ty).map (·.size) = some cs.length) :
  (results fn tmps).run Try.prog w = .ok (.agg cs.toArray) w := by
 have hp' : tmps[p]?.getD undef = .pointer (some ⟨g, 0, none⟩) := by simpa using hp
 simp [results, h, hp', asAddr, run_loadVar_mid w g 0 ty cs d hc hu hd hi]
set_option maxHeartbeats 1000000 in
set_option maxRecDepth 100000 in
theorem floor_steps.calls (w : World) : Calls Try.prog 104 #[] w fun e w' => e = .returned (.agg stepsL.toArray) ∧ Below w.heap.size w w' := by
 have HB := ak (Below.refl w.heap.size w); have hu130 := Try.underlying130; have hu131 := Try.underlying131
 go_enter Try.func104, Try.ntmps104
 go_wp2_with (first | ((with_reducible refine gate_dst (N := 0) rfl ?_); refine box_event ?hg (N := 0) ?hd (cs := zeros18) (t := 131) ?hr ?_; (case hd => rfl); (case hg => rfl); (case hr => first | (go_simp; done) | (go_simp; rfl)); intro g0 hg w0 hbox hb; have GE := ak (show w.heap.size ≤ g0 by omega); have HB2 := ak (below_step HB.1 hb); have BK := ak hbox; clear hbox hb hg HB) | ((with_reducible refine gate_store (p := 0) rfl ?_); go_loud (refine wpList_store_mid rfl 131 (.tmp 0) (.tmp 7) rfl g0 0 stepsL.toArray rfl rfl (there_of_blk BK.1 (by rw [zeros131_size]; decide)) size131 stepsL_one ?_)))
 have hth := there_of_blk (n := stepsL.length) BK.1 (by rw [zeros131_size]; decide); refine bodyPost_ret (results_mid rfl _ _ g0 stepsL _ rfl (World.rangeAt_setCells_same w0 g0 0 stepsL hth) Try.underlying131 rfl size131) rfl ⟨rfl, ?_⟩; have hs := setCells_same g0 stepsL 0 w0; exact ⟨hs.1.trans HB2.1.os, hs.2.1.trans HB2.1.tape, hs.2.2.1.trans HB2.1.output, by rw [hs.2.2.2]; exact HB2.1.size, fun k hk => (setCells_far stepsL 0 k (by have := GE.1; omega)).trans (HB2.1.block k hk)⟩
end Go.Proofs.Ytogmjilaiopjmaa.P
end
section
namespace Go.Proofs.Ytogmjilaiopjmaa.P
open Go.RowKit Go.Proofs.YtogmjilaiopjmaaW.PrintWords Go.Proofs.YtogmjilaiopjmaaW.PrintLast Go.Proofs.YtogmjilaiopjmaaW.PrintMore
attribute [local go_sem] max2_int min2_int max_two min_two max_three min_three max_four min_four
def floor_size.f (a0_0 : Int) (a0_1 : Int) (a0_2 : Int) (l0_3 : List Int) (l0_4 : List Int) : Option (Int) := some (wrap64 ((wrap64 (a0_0 * a0_1)) * a0_2))
set_option maxHeartbeats 8000000 in
set_option maxRecDepth 100000 in
theorem floor_size.calls (a0_0 : Int) (a0_1 : Int) (a0_2 : Int) (A0_3 : Option Addr) (c0_3 : Nat) (l0_3 : List Int) (A0_4 : Option Addr) (c0_4 : Nat) (l0_4 : List Int) (r : Int) (w : World) (hr0_3 : Kd.C (Kd.int .i64) w A0_3 l0_3.length l0_3) (hc0_3 : l0_3.length ≤ c0_3) (hr0_4 : Kd.C (Kd.int .i64) w A0_4 l0_4.length l0_4) (hc0_4 : l0_4.length ≤ c0_4) (h : floor_size.f a0_0 a0_1 a0_2 l0_3 l0_4 = some r) :
  Calls Try.prog 74 #[.agg #[.int .i64 a0_0, .int .i64 a0_1, .int .i64 a0_2, .slice A0_3 l0_3.length c0_3, .slice A0_4 l0_4.length c0_4]] w fun e w' => e = .returned (.int .i64 r) ∧ Below w.heap.size w w' := by
 have hu24 := Try.underlying24; have HR0_3 := ak hr0_3; have HC0_3 := ak hc0_3; clear hr0_3 hc0_3; have HR0_4 := ak hr0_4; have HC0_4 := ak hc0_4; clear hr0_4 hc0_4; have HB := ak (Below.refl w.heap.size w); have H : (some (wrap64 ((wrap64 (a0_0 * a0_1)) * a0_2))) = some r := h; clear h; obtain rfl := Option.some.inj H
 go_enter Try.func74, Try.ntmps74
 go_wp2_with (first | ((with_reducible refine gate_dst (N := 1) rfl ?_); refine box_event ?hg (N := 1) ?hd (cs := #[.int .i64 a0_0, .int .i64 a0_1, .int .i64 a0_2, .slice A0_3 l0_3.length c0_3, .slice A0_4 l0_4.length c0_4]) (t := 24) ?hr ?_; (case hd => rfl); (case hg => rfl); (case hr => first | (go_simp; done) | (go_simp; rfl)); intro gb103 hg w2 hbox hb; have n0_ := ak (below_step (hq0_ HB.1) hb); have n1_ := ak (hbox); have n2_ := ak ((by rw [hg]; exact (below_size (hq0_ HB.1)) : w.heap.size ≤ gb103)); have n3_ := ak ((by rw [hg]; exact (below_size (hq0_ HB.1)) : w.heap.size ≤ gb103)); clear HB; have HB := n0_; have BK103 := n1_; have GW103 := n2_; have GE103 := n3_; clear n0_ n1_ n2_ n3_; clear hb hbox hg; have hcz3_0 : w2.cell? ⟨gb103, 0, none⟩ = some (.int .i64 a0_0) := (blk_cell BK103.1 0).trans rfl; have hcz3_1 : w2.cell? ⟨gb103, 1, none⟩ = some (.int .i64 a0_1) := (blk_cell BK103.1 1).trans rfl; have hcz3_2 : w2.cell? ⟨gb103, 2, none⟩ = some (.int .i64 a0_2) := (blk_cell BK103.1 2).trans rfl; have hcz3_3 : w2.cell? ⟨gb103, 3, none⟩ = some (.slice A0_3 l0_3.length c0_3) := (blk_cell BK103.1 3).trans rfl; have hcz3_4 : w2.cell? ⟨gb103, 4, none⟩ = some (.slice A0_4 l0_4.length c0_4) := (blk_cell BK103.1 4).trans rfl; have hfz3_0 := blk_frozen BK103.1 0; have hfz3_1 := blk_frozen BK103.1 1; have hfz3_2 := blk_frozen BK103.1 2; have hfz3_3 := blk_frozen BK103.1 3; have hfz3_4 := blk_frozen BK103.1 4))
 go_ret
 exact ⟨er_, hq1_ HB.1 GE103.1⟩
def floor_is.f (a0_0 : Int) (a0_1 : Int) (a0_2 : Int) (l0_3 : List Int) (l0_4 : List Int) (a1 : Int) : Option (Bool) := if a1 ≥ 0 then ((floor_size.f a0_0 a0_1 a0_2 l0_3 l0_4).bind fun t105 => (some (decide (a1 < t105)))) else (some false)
set_option maxHeartbeats 8000000 in
set_option maxRecDepth 100000 in
theorem floor_is.calls (a0_0 : Int) (a0_1 : Int) (a0_2 : Int) (A0_3 : Option Addr) (c0_3 : Nat) (l0_3 : List Int) (A0_4 : Option Addr) (c0_4 : Nat) (l0_4 : List Int) (a1 : Int) (r : Bool) (w : World) (hr0_3 : Kd.C (Kd.int .i64) w A0_3 l0_3.length l0_3) (hc0_3 : l0_3.length ≤ c0_3) (hr0_4 : Kd.C (Kd.int .i64) w A0_4 l0_4.length l0_4) (hc0_4 : l0_4.length ≤ c0_4) (h : floor_is.f a0_0 a0_1 a0_2 l0_3 l0_4 a1 = some r) :
  Calls Try.prog 102 #[.agg #[.int .i64 a0_0, .int .i64 a0_1, .int .i64 a0_2, .slice A0_3 l0_3.length c0_3, .slice A0_4 l0_4.length c0_4], .int .i64 a1] w fun e w' => e = .returned (.bool r) ∧ Below w.heap.size w w' := by
 have hu24 := Try.underlying24; have HR0_3 := ak hr0_3; have HC0_3 := ak hc0_3; clear hr0_3 hc0_3; have HR0_4 := ak hr0_4; have HC0_4 := ak hc0_4; clear hr0_4 hc0_4; have HB := ak (Below.refl w.heap.size w); have H : (if a1 ≥ 0 then ((floor_size.f a0_0 a0_1 a0_2 l0_3 l0_4).bind fun t105 => (some (decide (a1 < t105)))) else (some false)) = some r := h; clear h
 by_cases c3 : a1 ≥ 0
 ·rw [if_pos c3] at H; have c3b0 : decide (0 ≤ a1) = true := decide_eq_true c3; clear c3; replace H := Option.bind_eq_some_iff.mp H; obtain ⟨t105, A40, H⟩ := H
  replace H : (some (decide (a1 < t105))) = some r := H
  have A4 := ak A40; clear A40; obtain rfl := Option.some.inj H
  go_enter Try.func102, Try.ntmps102
  go_wp2_with (first | ((with_reducible refine gate_dst (N := 2) rfl ?_); refine box_event ?hg (N := 2) ?hd (cs := #[.int .i64 a0_0, .int .i64 a0_1, .int .i64 a0_2, .slice A0_3 l0_3.length c0_3, .slice A0_4 l0_4.length c0_4]) (t := 24) ?hr ?_; (case hd => rfl); (case hg => rfl); (case hr => first | (go_simp; done) | (go_simp; rfl)); intro gb104 hg w5 hbox hb; have n0_ := ak (below_step (hq0_ HB.1) hb); have n1_ := ak (hbox); have n2_ := ak ((by rw [hg]; exact (below_size (hq0_ HB.1)) : w.heap.size ≤ gb104)); have n3_ := ak ((by rw [hg]; exact (below_size (hq0_ HB.1)) : w.heap.size ≤ gb104)); clear HB; have HB := n0_; have BK104 := n1_; have GW104 := n2_; have GE104 := n3_; clear n0_ n1_ n2_ n3_; clear hb hbox hg; have hcz6_0 : w5.cell? ⟨gb104, 0, none⟩ = some (.int .i64 a0_0) := (blk_cell BK104.1 0).trans rfl; have hcz6_1 : w5.cell? ⟨gb104, 1, none⟩ = some (.int .i64 a0_1) := (blk_cell BK104.1 1).trans rfl; have hcz6_2 : w5.cell? ⟨gb104, 2, none⟩ = some (.int .i64 a0_2) := (blk_cell BK104.1 2).trans rfl; have hcz6_3 : w5.cell? ⟨gb104, 3, none⟩ = some (.slice A0_3 l0_3.length c0_3) := (blk_cell BK104.1 3).trans rfl; have hcz6_4 : w5.cell? ⟨gb104, 4, none⟩ = some (.slice A0_4 l0_4.length c0_4) := (blk_cell BK104.1 4).trans rfl; have hfz6_0 := blk_frozen BK104.1 0; have hfz6_1 := blk_frozen BK104.1 1; have hfz6_2 := blk_frozen BK104.1 2; have hfz6_3 := blk_frozen BK104.1 3; have hfz6_4 := blk_frozen BK104.1 4) | (go_at_call 74; (with_reducible refine (floor_size.calls a0_0 a0_1 a0_2 _ _ l0_3 _ _ l0_4 t105 _ ?side1 ?side2 ?side3 ?side4 A4.1).mono ?_); (case side1 => repeat (first | exact (Kd.C_below HR0_3.1 HB.1) | (with_reducible refine Kd.C_alloc ?_ _) | (with_reducible refine Kd.C_drewN ?_ _) | (with_reducible refine Kd.C_drew ?_))); (case side2 => exact HC0_3.1); (case side3 => repeat (first | exact (Kd.C_below HR0_4.1 HB.1) | (with_reducible refine Kd.C_alloc ?_ _) | (with_reducible refine Kd.C_drewN ?_ _) | (with_reducible refine Kd.C_drew ?_))); (case side4 => exact HC0_4.1); rintro e w7 ⟨rfl, hb⟩; have n0_ := ak (blk_below (g := gb104) (o := .cells #[.int .i64 a0_0, .int .i64 a0_1, .int .i64 a0_2, .slice A0_3 l0_3.length c0_3, .slice A0_4 l0_4.length c0_4] 24 (0, 0)) (bq_ BK104.1) hb); have n1_ := ak (below_step (hq1_ HB.1 GE104.1) hb); clear BK104; clear HB; have BK104 := n0_; have HB := n1_; clear n0_ n1_; (try clear hb); (try clear hb2); (try clear hk); (try clear hi)))
  go_ret
  exact ⟨er_, hq1_ HB.1 GE104.1⟩
 ·rw [if_neg c3] at H; have c3b0 : decide (0 ≤ a1) = false := decide_eq_false c3; clear c3; obtain rfl := Option.some.inj H
  go_enter Try.func102, Try.ntmps102
  go_wp2_with (first | ((with_reducible refine gate_dst (N := 2) rfl ?_); refine box_event ?hg (N := 2) ?hd (cs := #[.int .i64 a0_0, .int .i64 a0_1, .int .i64 a0_2, .slice A0_3 l0_3.length c0_3, .slice A0_4 l0_4.length c0_4]) (t := 24) ?hr ?_; (case hd => rfl); (case hg => rfl); (case hr => first | (go_simp; done) | (go_simp; rfl)); intro gb104 hg w8 hbox hb; have n0_ := ak (below_step (hq0_ HB.1) hb); have n1_ := ak (hbox); have n2_ := ak ((by rw [hg]; exact (below_size (hq0_ HB.1)) : w.heap.size ≤ gb104)); have n3_ := ak ((by rw [hg]; exact (below_size (hq0_ HB.1)) : w.heap.size ≤ gb104)); clear HB; have HB := n0_; have BK104 := n1_; have GW104 := n2_; have GE104 := n3_; clear n0_ n1_ n2_ n3_; clear hb hbox hg))
  go_ret
  exact ⟨er_, hq1_ HB.1 GE104.1⟩
def floor_At.f (a0_0 : Int) (a0_1 : Int) (a0_2 : Int) (l0_3 : List Int) (l0_4 : List Int) (a1 : Int) : Option (Int × Int × Int) := (floor_is.f a0_0 a0_1 a0_2 l0_3 l0_4 a1).bind fun t107 => (if t107 = true then (if a0_0 = 0 then (none) else (if a0_1 = 0 then (none) else (if (wrap64 (a0_0 * a0_1)) = 0 then (none) else (some (Int.tmod a1 a0_0, Int.tmod (wrap64 (Int.tdiv a1 a0_0)) a0_1, wrap64 (Int.tdiv a1 (wrap64 (a0_0 * a0_1)))))))) else (some (0, 0, 0)))
set_option maxHeartbeats 8000000 in
set_option maxRecDepth 100000 in
theorem floor_At.calls (a0_0 : Int) (a0_1 : Int) (a0_2 : Int) (A0_3 : Option Addr) (c0_3 : Nat) (l0_3 : List Int) (A0_4 : Option Addr) (c0_4 : Nat) (l0_4 : List Int) (a1 : Int) (r1 : Int) (r2 : Int) (r3 : Int) (w : World) (hr0_3 : Kd.C (Kd.int .i64) w A0_3 l0_3.length l0_3) (hc0_3 : l0_3.length ≤ c0_3) (hr0_4 : Kd.C (Kd.int .i64) w A0_4 l0_4.length l0_4) (hc0_4 : l0_4.length ≤ c0_4) (h : floor_At.f a0_0 a0_1 a0_2 l0_3 l0_4 a1 = some (r1, r2, r3)) :
  Calls Try.prog 103 #[.agg #[.int .i64 a0_0, .int .i64 a0_1, .int .i64 a0_2, .slice A0_3 l0_3.length c0_3, .slice A0_4 l0_4.length c0_4], .int .i64 a1] w fun e w' => e = .returned (.tuple #[.int .i64 r1, .int .i64 r2, .int .i64 r3]) ∧ Below w.heap.size w w' := by
 have hu24 := Try.underlying24; have HR0_3 := ak hr0_3; have HC0_3 := ak hc0_3; clear hr0_3 hc0_3; have HR0_4 := ak hr0_4; have HC0_4 := ak hc0_4; clear hr0_4 hc0_4; have HB := ak (Below.refl w.heap.size w); have H : ((floor_is.f a0_0 a0_1 a0_2 l0_3 l0_4 a1).bind fun t107 => (if t107 = true then (if a0_0 = 0 then (none) else (if a0_1 = 0 then (none) else (if (wrap64 (a0_0 * a0_1)) = 0 then (none) else (some (Int.tmod a1 a0_0, Int.tmod (wrap64 (Int.tdiv a1 a0_0)) a0_1, wrap64 (Int.tdiv a1 (wrap64 (a0_0 * a0_1)))))))) else (some (0, 0, 0)))) = some (r1, r2, r3) := h; clear h; replace H := Option.bind_eq_some_iff.mp H; obtain ⟨t107, A30, H⟩ := H
 replace H : (if t107 = true then (if a0_0 = 0 then (none) else (if a0_1 = 0 then (none) else (if (wrap64 (a0_0 * a0_1)) = 0 then (none) else (some (Int.tmod a1 a0_0, Int.tmod (wrap64 (Int.tdiv a1 a0_0)) a0_1, wrap64 (Int.tdiv a1 (wrap64 (a0_0 * a0_1)))))))) else (some (0, 0, 0))) = some (r1, r2, r3) := H
 have A3 := ak A30; clear A30
 by_cases c4 : t107 = true
 ·subst c4
  have H1 : (if a0_0 = 0 then (none) else (if a0_1 = 0 then (none) else (if (wrap64 (a0_0 * a0_1)) = 0 then (none) else (some (Int.tmod a1 a0_0, Int.tmod (wrap64 (Int.tdiv a1 a0_0)) a0_1, wrap64 (Int.tdiv a1 (wrap64 (a0_0 * a0_1)))))))) = some (r1, r2, r3) := by rw [if_pos rfl] at H; exact H
  clear H; have H := H1; clear H1
  by_cases c5 : a0_0 = 0
  ·rw [if_pos c5] at H; exact absurd H (by simp)
  ·rw [if_neg c5] at H; have c5b0 : (a0_0 == 0) = false := beq_eq_false_iff_ne.mpr c5; have c5b1 : (a0_0 != 0) = true := bne_iff_ne.mpr c5
   by_cases c6 : a0_1 = 0
   ·rw [if_pos c6] at H; exact absurd H (by simp)
   ·rw [if_neg c6] at H; have c6b0 : (a0_1 == 0) = false := beq_eq_false_iff_ne.mpr c6; have c6b1 : (a0_1 != 0) = true := bne_iff_ne.mpr c6
    by_cases c7 : (wrap64 (a0_0 * a0_1)) = 0
    ·rw [if_pos c7] at H; exact absurd H (by simp)
    ·rw [if_neg c7] at H; have c7b0 : ((wrap64 (a0_0 * a0_1)) == 0) = false := beq_eq_false_iff_ne.mpr c7; have c7b1 : ((wrap64 (a0_0 * a0_1)) != 0) = true := bne_iff_ne.mpr c7; simp only [Option.some.injEq, Prod.mk.injEq] at H; obtain ⟨rfl, rfl, rfl⟩ := H
     go_enter Try.func103, Try.ntmps103
     go_wp2_with (first | ((with_reducible refine gate_dst (N := 2) rfl ?_); refine box_event ?hg (N := 2) ?hd (cs := #[.int .i64 a0_0, .int .i64 a0_1, .int .i64 a0_2, .slice A0_3 l0_3.length c0_3, .slice A0_4 l0_4.length c0_4]) (t := 24) ?hr ?_; (case hd => rfl); (case hg => rfl); (case hr => first | (go_simp; done) | (go_simp; rfl)); intro gb106 hg w8 hbox hb; have BK106 := ak (hbox); have GW106 := gw_ hg HB.1.size; have GE106 := gw_ hg HB.1.size; replace HB := ak (below_step HB.1 hb); clear hb hbox hg; obtain ⟨hcz9_0, hcz9_1, hcz9_2, hcz9_3, hcz9_4, hfz9_0, hfz9_1, hfz9_2, hfz9_3, hfz9_4⟩ := bk5 BK106.1) | (go_at_call 102; (with_reducible refine (floor_is.calls a0_0 a0_1 a0_2 _ _ l0_3 _ _ l0_4 a1 true _ ?side1 ?side2 ?side3 ?side4 A3.1).mono ?_); (case side1 => exact (Kd.C_below HR0_3.1 HB.1)); (case side2 => exact HC0_3.1); (case side3 => exact (Kd.C_below HR0_4.1 HB.1)); (case side4 => exact HC0_4.1); rintro e w10 ⟨rfl, hb⟩; replace BK106 := ak (blk_below BK106.1 hb); replace HB := ak (below_step HB.1 hb); (try clear hb); obtain ⟨hcz11_0, hcz11_1, hcz11_2, hcz11_3, hcz11_4, hfz11_0, hfz11_1, hfz11_2, hfz11_3, hfz11_4⟩ := bk5 BK106.1))
     repeat (go_quiet (first | ((with_reducible refine gate_dst (N := 2) rfl ?_); refine box_event ?hg (N := 2) ?hd (cs := #[.int .i64 a0_0, .int .i64 a0_1, .int .i64 a0_2, .slice A0_3 l0_3.length c0_3, .slice A0_4 l0_4.length c0_4]) (t := 24) ?hr ?_; (case hd => rfl); (case hg => rfl); (case hr => first | (go_simp; done) | (go_simp; rfl)); intro gb106 hg w8 hbox hb; have BK106 := ak (hbox); have GW106 := gw_ hg HB.1.size; have GE106 := gw_ hg HB.1.size; replace HB := ak (below_step HB.1 hb); clear hb hbox hg; obtain ⟨hcz9_0, hcz9_1, hcz9_2, hcz9_3, hcz9_4, hfz9_0, hfz9_1, hfz9_2, hfz9_3, hfz9_4⟩ := bk5 BK106.1) | (go_at_call 102; (with_reducible refine (floor_is.calls a0_0 a0_1 a0_2 _ _ l0_3 _ _ l0_4 a1 true _ ?side1 ?side2 ?side3 ?side4 A3.1).mono ?_); (case side1 => exact (Kd.C_below HR0_3.1 HB.1)); (case side2 => exact HC0_3.1); (case side3 => exact (Kd.C_below HR0_4.1 HB.1)); (case side4 => exact HC0_4.1); rintro e w10 ⟨rfl, hb⟩; replace BK106 := ak (blk_below BK106.1 hb); replace HB := ak (below_step HB.1 hb); (try clear hb); obtain ⟨hcz11_0, hcz11_1, hcz11_2, hcz11_3, hcz11_4, hfz11_0, hfz11_1, hfz11_2, hfz11_3, hfz11_4⟩ := bk5 BK106.1)); try go_wp2_with (first | ((with_reducible refine gate_dst (N := 2) rfl ?_); refine box_event ?hg (N := 2) ?hd (cs := #[.int .i64 a0_0, .int .i64 a0_1, .int .i64 a0_2, .slice A0_3 l0_3.length c0_3, .slice A0_4 l0_4.length c0_4]) (t := 24) ?hr ?_; (case hd => rfl); (case hg => rfl); (case hr => first | (go_simp; done) | (go_simp; rfl)); intro gb106 hg w8 hbox hb; have BK106 := ak (hbox); have GW106 := gw_ hg HB.1.size; have GE106 := gw_ hg HB.1.size; replace HB := ak (below_step HB.1 hb); clear hb hbox hg; obtain ⟨hcz9_0, hcz9_1, hcz9_2, hcz9_3, hcz9_4, hfz9_0, hfz9_1, hfz9_2, hfz9_3, hfz9_4⟩ := bk5 BK106.1) | (go_at_call 102; (with_reducible refine (floor_is.calls a0_0 a0_1 a0_2 _ _ l0_3 _ _ l0_4 a1 true _ ?side1 ?side2 ?side3 ?side4 A3.1).mono ?_); (case side1 => exact (Kd.C_below HR0_3.1 HB.1)); (case side2 => exact HC0_3.1); (case side3 => exact (Kd.C_below HR0_4.1 HB.1)); (case side4 => exact HC0_4.1); rintro e w10 ⟨rfl, hb⟩; replace BK106 := ak (blk_below BK106.1 hb); replace HB := ak (below_step HB.1 hb); (try clear hb); obtain ⟨hcz11_0, hcz11_1, hcz11_2, hcz11_3, hcz11_4, hfz11_0, hfz11_1, hfz11_2, hfz11_3, hfz11_4⟩ := bk5 BK106.1)))
     go_ret3
     exact ⟨er_, hq1_ HB.1 GE106.1⟩
 ·replace c4 := Bool.eq_false_iff.mpr c4; subst c4
  have H1 : (some (0, 0, 0)) = some (r1, r2, r3) := by rw [if_neg (show ¬ (false = true) by decide)] at H; exact H
  clear H; have H := H1; clear H1; simp only [Option.some.injEq, Prod.mk.injEq] at H; obtain ⟨rfl, rfl, rfl⟩ := H
  go_enter Try.func103, Try.ntmps103
  go_wp2_with (first | ((with_reducible refine gate_dst (N := 2) rfl ?_); refine box_event ?hg (N := 2) ?hd (cs := #[.int .i64 a0_0, .int .i64 a0_1, .int .i64 a0_2, .slice A0_3 l0_3.length c0_3, .slice A0_4 l0_4.length c0_4]) (t := 24) ?hr ?_; (case hd => rfl); (case hg => rfl); (case hr => first | (go_simp; done) | (go_simp; rfl)); intro gb106 hg w12 hbox hb; have BK106 := ak (hbox); have GW106 := gw_ hg HB.1.size; have GE106 := gw_ hg HB.1.size; replace HB := ak (below_step HB.1 hb); clear hb hbox hg; obtain ⟨hcz13_0, hcz13_1, hcz13_2, hcz13_3, hcz13_4, hfz13_0, hfz13_1, hfz13_2, hfz13_3, hfz13_4⟩ := bk5 BK106.1) | (go_at_call 102; (with_reducible refine (floor_is.calls a0_0 a0_1 a0_2 _ _ l0_3 _ _ l0_4 a1 false _ ?side1 ?side2 ?side3 ?side4 A3.1).mono ?_); (case side1 => exact (Kd.C_below HR0_3.1 HB.1)); (case side2 => exact HC0_3.1); (case side3 => exact (Kd.C_below HR0_4.1 HB.1)); (case side4 => exact HC0_4.1); rintro e w14 ⟨rfl, hb⟩; replace BK106 := ak (blk_below BK106.1 hb); replace HB := ak (below_step HB.1 hb); (try clear hb)))
  repeat (go_quiet (first | ((with_reducible refine gate_dst (N := 2) rfl ?_); refine box_event ?hg (N := 2) ?hd (cs := #[.int .i64 a0_0, .int .i64 a0_1, .int .i64 a0_2, .slice A0_3 l0_3.length c0_3, .slice A0_4 l0_4.length c0_4]) (t := 24) ?hr ?_; (case hd => rfl); (case hg => rfl); (case hr => first | (go_simp; done) | (go_simp; rfl)); intro gb106 hg w12 hbox hb; have BK106 := ak (hbox); have GW106 := gw_ hg HB.1.size; have GE106 := gw_ hg HB.1.size; replace HB := ak (below_step HB.1 hb); clear hb hbox hg; obtain ⟨hcz13_0, hcz13_1, hcz13_2, hcz13_3, hcz13_4, hfz13_0, hfz13_1, hfz13_2, hfz13_3, hfz13_4⟩ := bk5 BK106.1) | (go_at_call 102; (with_reducible refine (floor_is.calls a0_0 a0_1 a0_2 _ _ l0_3 _ _ l0_4 a1 false _ ?side1 ?side2 ?side3 ?side4 A3.1).mono ?_); (case side1 => exact (Kd.C_below HR0_3.1 HB.1)); (case side2 => exact HC0_3.1); (case side3 => exact (Kd.C_below HR0_4.1 HB.1)); (case side4 => exact HC0_4.1); rintro e w14 ⟨rfl, hb⟩; replace BK106 := ak (blk_below BK106.1 hb); replace HB := ak (below_step HB.1 hb); (try clear hb))); try go_wp2_with (first | ((with_reducible refine gate_dst (N := 2) rfl ?_); refine box_event ?hg (N := 2) ?hd (cs := #[.int .i64 a0_0, .int .i64 a0_1, .int .i64 a0_2, .slice A0_3 l0_3.length c0_3, .slice A0_4 l0_4.length c0_4]) (t := 24) ?hr ?_; (case hd => rfl); (case hg => rfl); (case hr => first | (go_simp; done) | (go_simp; rfl)); intro gb106 hg w12 hbox hb; have BK106 := ak (hbox); have GW106 := gw_ hg HB.1.size; have GE106 := gw_ hg HB.1.size; replace HB := ak (below_step HB.1 hb); clear hb hbox hg; obtain ⟨hcz13_0, hcz13_1, hcz13_2, hcz13_3, hcz13_4, hfz13_0, hfz13_1, hfz13_2, hfz13_3, hfz13_4⟩ := bk5 BK106.1) | (go_at_call 102; (with_reducible refine (floor_is.calls a0_0 a0_1 a0_2 _ _ l0_3 _ _ l0_4 a1 false _ ?side1 ?side2 ?side3 ?side4 A3.1).mono ?_); (case side1 => exact (Kd.C_below HR0_3.1 HB.1)); (case side2 => exact HC0_3.1); (case side3 => exact (Kd.C_below HR0_4.1 HB.1)); (case side4 => exact HC0_4.1); rintro e w14 ⟨rfl, hb⟩; replace BK106 := ak (blk_below BK106.1 hb); replace HB := ak (below_step HB.1 hb); (try clear hb))))
  go_ret3
  exact ⟨er_, hq1_ HB.1 GE106.1⟩
def floor_Cell.f (a0_0 : Int) (a0_1 : Int) (a0_2 : Int) (l0_3 : List Int) (l0_4 : List Int) (a1 : Int) (a2 : Int) (a3 : Int) : Option (Int) := if (mn (mn a1 a2) a3) < 0 then (some (-1)) else (if a1 ≥ a0_0 then (some (-1)) else (if a2 ≥ a0_1 then (some (-1)) else (if a3 ≥ a0_2 then (some (-1)) else (some (wrap64 ((wrap64 ((wrap64 ((wrap64 (a3 * a0_1)) + a2)) * a0_0)) + a1))))))
set_option maxHeartbeats 8000000 in
set_option maxRecDepth 100000 in
theorem floor_Cell.calls (a0_0 : Int) (a0_1 : Int) (a0_2 : Int) (A0_3 : Option Addr) (c0_3 : Nat) (l0_3 : List Int) (A0_4 : Option Addr) (c0_4 : Nat) (l0_4 : List Int) (a1 : Int) (a2 : Int) (a3 : Int) (r : Int) (w : World) (hr0_3 : Kd.C (Kd.int .i64) w A0_3 l0_3.length l0_3) (hc0_3 : l0_3.length ≤ c0_3) (hr0_4 : Kd.C (Kd.int .i64) w A0_4 l0_4.length l0_4) (hc0_4 : l0_4.length ≤ c0_4) (h : floor_Cell.f a0_0 a0_1 a0_2 l0_3 l0_4 a1 a2 a3 = some r) :
  Calls Try.prog 105 #[.agg #[.int .i64 a0_0, .int .i64 a0_1, .int .i64 a0_2, .slice A0_3 l0_3.length c0_3, .slice A0_4 l0_4.length c0_4], .int .i64 a1, .int .i64 a2, .int .i64 a3] w fun e w' => e = .returned (.int .i64 r) ∧ Below w.heap.size w w' := by
 have hu24 := Try.underlying24; have HR0_3 := ak hr0_3; have HC0_3 := ak hc0_3; clear hr0_3 hc0_3; have HR0_4 := ak hr0_4; have HC0_4 := ak hc0_4; clear hr0_4 hc0_4; have HB := ak (Below.refl w.heap.size w); have H : (if (mn (mn a1 a2) a3) < 0 then (some (-1)) else (if a1 ≥ a0_0 then (some (-1)) else (if a2 ≥ a0_1 then (some (-1)) else (if a3 ≥ a0_2 then (some (-1)) else (some (wrap64 ((wrap64 ((wrap64 ((wrap64 (a3 * a0_1)) + a2)) * a0_0)) + a1))))))) = some r := h; clear h; obtain ⟨ji5, hji5⟩ : ∃ j_ : Int, (mn a1 a2) = j_ := ⟨_, rfl⟩
 replace H : (if (mn (ji5) a3) < 0 then (some (-1)) else (if a1 ≥ a0_0 then (some (-1)) else (if a2 ≥ a0_1 then (some (-1)) else (if a3 ≥ a0_2 then (some (-1)) else (some (wrap64 ((wrap64 ((wrap64 ((wrap64 (a3 * a0_1)) + a2)) * a0_0)) + a1))))))) = some r := by first | (rw [hji5] at H; exact H) | (simp only [hji5] at H ⊢; exact H)
 have hji5_ : (if a2 < a1 then a2 else a1) = ji5 := hji5; obtain ⟨ji6, hji6⟩ : ∃ j_ : Int, (mn (ji5) a3) = j_ := ⟨_, rfl⟩
 replace H : (if (ji6) < 0 then (some (-1)) else (if a1 ≥ a0_0 then (some (-1)) else (if a2 ≥ a0_1 then (some (-1)) else (if a3 ≥ a0_2 then (some (-1)) else (some (wrap64 ((wrap64 ((wrap64 ((wrap64 (a3 * a0_1)) + a2)) * a0_0)) + a1))))))) = some r := by first | (rw [hji6] at H; exact H) | (simp only [hji6] at H ⊢; exact H)
 have hji6_ : (if a3 < (ji5) then a3 else (ji5)) = ji6 := hji6
 by_cases c7 : (ji6) < 0
 ·rw [if_pos c7] at H; have c7b0 : decide ((ji6) < 0) = true := decide_eq_true c7; clear c7; obtain rfl := Option.some.inj H
  go_enter Try.func105, Try.ntmps105
  go_wp2_with (first | ((with_reducible refine gate_dst (N := 4) rfl ?_); refine box_event ?hg (N := 4) ?hd (cs := #[.int .i64 a0_0, .int .i64 a0_1, .int .i64 a0_2, .slice A0_3 l0_3.length c0_3, .slice A0_4 l0_4.length c0_4]) (t := 24) ?hr ?_; (case hd => rfl); (case hg => rfl); (case hr => first | (go_simp; done) | (go_simp; rfl)); intro gb108 hg w8 hbox hb; have BK108 := ak (hbox); have GW108 := gw_ hg HB.1.size; have GE108 := gw_ hg HB.1.size; replace HB := ak (below_step HB.1 hb); clear hb hbox hg))
  go_ret
  exact ⟨by first | rfl | (simp [errW_none, errW_some] <;> rfl) | (simp only [← hji5, ← hji6]; first | rfl | (simp [errW_none, errW_some] <;> rfl)) | (simp [*, errW_none, errW_some] <;> rfl), hq1_ HB.1 GE108.1⟩
 ·rw [if_neg c7] at H; have c7b0 : decide ((ji6) < 0) = false := decide_eq_false c7; clear c7
  by_cases c9 : a1 ≥ a0_0
  ·rw [if_pos c9] at H; have c9b0 : decide (a0_0 ≤ a1) = true := decide_eq_true c9; clear c9; obtain rfl := Option.some.inj H
   go_enter Try.func105, Try.ntmps105
   go_wp2_with (first | ((with_reducible refine gate_dst (N := 4) rfl ?_); refine box_event ?hg (N := 4) ?hd (cs := #[.int .i64 a0_0, .int .i64 a0_1, .int .i64 a0_2, .slice A0_3 l0_3.length c0_3, .slice A0_4 l0_4.length c0_4]) (t := 24) ?hr ?_; (case hd => rfl); (case hg => rfl); (case hr => first | (go_simp; done) | (go_simp; rfl)); intro gb108 hg w10 hbox hb; have BK108 := ak (hbox); have GW108 := gw_ hg HB.1.size; have GE108 := gw_ hg HB.1.size; replace HB := ak (below_step HB.1 hb); clear hb hbox hg; obtain ⟨hcz11_0, hcz11_1, hcz11_2, hcz11_3, hcz11_4, hfz11_0, hfz11_1, hfz11_2, hfz11_3, hfz11_4⟩ := bk5 BK108.1))
   go_ret
   exact ⟨by first | rfl | (simp [errW_none, errW_some] <;> rfl) | (simp only [← hji5, ← hji6]; first | rfl | (simp [errW_none, errW_some] <;> rfl)) | (simp [*, errW_none, errW_some] <;> rfl), hq1_ HB.1 GE108.1⟩
  ·rw [if_neg c9] at H; have c9b0 : decide (a0_0 ≤ a1) = false := decide_eq_false c9; clear c9
   by_cases c12 : a2 ≥ a0_1
   ·rw [if_pos c12] at H; have c12b0 : decide (a0_1 ≤ a2) = true := decide_eq_true c12; clear c12; obtain rfl := Option.some.inj H
    go_enter Try.func105, Try.ntmps105
    go_wp2_with (first | ((with_reducible refine gate_dst (N := 4) rfl ?_); refine box_event ?hg (N := 4) ?hd (cs := #[.int .i64 a0_0, .int .i64 a0_1, .int .i64 a0_2, .slice A0_3 l0_3.length c0_3, .slice A0_4 l0_4.length c0_4]) (t := 24) ?hr ?_; (case hd => rfl); (case hg => rfl); (case hr => first | (go_simp; done) | (go_simp; rfl)); intro gb108 hg w13 hbox hb; have BK108 := ak (hbox); have GW108 := gw_ hg HB.1.size; have GE108 := gw_ hg HB.1.size; replace HB := ak (below_step HB.1 hb); clear hb hbox hg; obtain ⟨hcz14_0, hcz14_1, hcz14_2, hcz14_3, hcz14_4, hfz14_0, hfz14_1, hfz14_2, hfz14_3, hfz14_4⟩ := bk5 BK108.1))
    go_ret
    exact ⟨by first | rfl | (simp [errW_none, errW_some] <;> rfl) | (simp only [← hji5, ← hji6]; first | rfl | (simp [errW_none, errW_some] <;> rfl)) | (simp [*, errW_none, errW_some] <;> rfl), hq1_ HB.1 GE108.1⟩
   ·rw [if_neg c12] at H; have c12b0 : decide (a0_1 ≤ a2) = false := decide_eq_false c12; clear c12
    by_cases c15 : a3 ≥ a0_2
    ·rw [if_pos c15] at H; have c15b0 : decide (a0_2 ≤ a3) = true := decide_eq_true c15; clear c15; obtain rfl := Option.some.inj H
     go_enter Try.func105, Try.ntmps105
     go_wp2_with (first | ((with_reducible refine gate_dst (N := 4) rfl ?_); refine box_event ?hg (N := 4) ?hd (cs := #[.int .i64 a0_0, .int .i64 a0_1, .int .i64 a0_2, .slice A0_3 l0_3.length c0_3, .slice A0_4 l0_4.length c0_4]) (t := 24) ?hr ?_; (case hd => rfl); (case hg => rfl); (case hr => first | (go_simp; done) | (go_simp; rfl)); intro gb108 hg w16 hbox hb; have BK108 := ak (hbox); have GW108 := gw_ hg HB.1.size; have GE108 := gw_ hg HB.1.size; replace HB := ak (below_step HB.1 hb); clear hb hbox hg; obtain ⟨hcz17_0, hcz17_1, hcz17_2, hcz17_3, hcz17_4, hfz17_0, hfz17_1, hfz17_2, hfz17_3, hfz17_4⟩ := bk5 BK108.1))
     go_ret
     exact ⟨by first | rfl | (simp [errW_none, errW_some] <;> rfl) | (simp only [← hji5, ← hji6]; first | rfl | (simp [errW_none, errW_some] <;> rfl)) | (simp [*, errW_none, errW_some] <;> rfl), hq1_ HB.1 GE108.1⟩
    ·rw [if_neg c15] at H; have c15b0 : decide (a0_2 ≤ a3) = false := decide_eq_false c15; clear c15; obtain rfl := Option.some.inj H
     go_enter Try.func105, Try.ntmps105
     go_wp2_with (first | ((with_reducible refine gate_dst (N := 4) rfl ?_); refine box_event ?hg (N := 4) ?hd (cs := #[.int .i64 a0_0, .int .i64 a0_1, .int .i64 a0_2, .slice A0_3 l0_3.length c0_3, .slice A0_4 l0_4.length c0_4]) (t := 24) ?hr ?_; (case hd => rfl); (case hg => rfl); (case hr => first | (go_simp; done) | (go_simp; rfl)); intro gb108 hg w18 hbox hb; have BK108 := ak (hbox); have GW108 := gw_ hg HB.1.size; have GE108 := gw_ hg HB.1.size; replace HB := ak (below_step HB.1 hb); clear hb hbox hg; obtain ⟨hcz19_0, hcz19_1, hcz19_2, hcz19_3, hcz19_4, hfz19_0, hfz19_1, hfz19_2, hfz19_3, hfz19_4⟩ := bk5 BK108.1))
     go_ret
     exact ⟨by first | rfl | (simp [errW_none, errW_some] <;> rfl) | (simp only [← hji5, ← hji6]; first | rfl | (simp [errW_none, errW_some] <;> rfl)) | (simp [*, errW_none, errW_some] <;> rfl), hq1_ HB.1 GE108.1⟩
end Go.Proofs.Ytogmjilaiopjmaa.P
end
section
namespace Go.Proofs.Ytogmjilaiopjmaa.P
open Go.RowKit Go.Proofs.YtogmjilaiopjmaaW.PrintWords Go.Proofs.YtogmjilaiopjmaaW.PrintLast Go.Proofs.YtogmjilaiopjmaaW.PrintMore
def sx (d : Int) : Int := if d = 0 then 1 else if d = 2 then -1 else 0
def sy (d : Int) : Int := if d = 1 then 1 else if d = 3 then -1 else 0
def sz (d : Int) : Int := if d = 4 then 1 else if d = 5 then -1 else 0
def floor_beside.f (a0_0 : Int) (a0_1 : Int) (a0_2 : Int) (l0_3 : List Int) (l0_4 : List Int) (a1 : Int) (a2 : Int) : Option Int :=
 (floor_is.f a0_0 a0_1 a0_2 l0_3 l0_4 a1).bind fun b => if b = true then (if a2 < 0 then some (-1) else if a2 ≥ 6 then some (-1) else (floor_At.f a0_0 a0_1 a0_2 l0_3 l0_4 a1).bind fun p => floor_Cell.f a0_0 a0_1 a0_2 l0_3 l0_4 (wrap64 (p.1 + sx a2)) (wrap64 (p.2.1 + sy a2)) (wrap64 (p.2.2 + sz a2))) else some (-1)
set_option maxHeartbeats 2000000 in
set_option maxRecDepth 100000 in
theorem beside_no (a0_0 : Int) (a0_1 : Int) (a0_2 : Int) (A0_3 : Option Addr) (c0_3 : Nat) (l0_3 : List Int) (A0_4 : Option Addr) (c0_4 : Nat) (l0_4 : List Int) (a1 : Int) (a2 : Int) (b : Bool) (w : World) (hr0_3 : Kd.C (Kd.int .i64) w A0_3 l0_3.length l0_3) (hc0_3 : l0_3.length ≤ c0_3) (hr0_4 : Kd.C (Kd.int .i64) w A0_4 l0_4.length l0_4) (hc0_4 : l0_4.length ≤ c0_4) (his : floor_is.f a0_0 a0_1 a0_2 l0_3 l0_4 a1 = some b) (h : b = false ∨ a2 < 0 ∨ 6 ≤ a2) :
  Calls Try.prog 93 #[.agg #[.int .i64 a0_0, .int .i64 a0_1, .int .i64 a0_2, .slice A0_3 l0_3.length c0_3, .slice A0_4 l0_4.length c0_4], .int .i64 a1, .int .i64 a2] w fun e w' => e = .returned (.int .i64 (-1)) ∧ Below w.heap.size w w' := by
 have hu24 := Try.underlying24; have HB := ak (Below.refl w.heap.size w); have HR3 := ak hr0_3; have HC3 := ak hc0_3; have HR4 := ak hr0_4; have HC4 := ak hc0_4; clear hr0_3 hc0_3 hr0_4 hc0_4; have HIS := ak his; have HH := ak h; clear his h
 go_enter Try.func93, Try.ntmps93
 go_upto_region 1 with (first | ((with_reducible refine gate_dst (N := 3) rfl ?_); refine box_event ?hg (N := 3) ?hd (cs := #[.int .i64 a0_0, .int .i64 a0_1, .int .i64 a0_2, .slice A0_3 l0_3.length c0_3, .slice A0_4 l0_4.length c0_4]) (t := 24) ?hr ?_; (case hd => rfl); (case hg => rfl); (case hr => first | (go_simp; done) | (go_simp; rfl)); intro g3 hg w3 hbox hb; have GE3 := ak (show w.heap.size ≤ g3 by have := HB.1.size; omega); have n_HB := ak (below_step HB.1 hb); clear HB; have HB := n_HB; clear n_HB; have BK3 := ak hbox; clear hbox hb hg))
 have e0 := blk_cell BK3.1 0; have e1 := blk_cell BK3.1 1; have e2 := blk_cell BK3.1 2; have e3 := blk_cell BK3.1 3; have e4 := blk_cell BK3.1 4
 try simp at e0 e1 e2 e3 e4
 cases b with
 | false =>
  go_wp2_with ((go_at_call 102; refine (floor_is.calls _ _ _ _ _ l0_3 _ _ l0_4 _ _ _ (Kd.C_below HR3.1 HB.1) HC3.1 (Kd.C_below HR4.1 HB.1) HC4.1 HIS.1).mono ?_; rintro e w102_ ⟨rfl, hb⟩; have n_BK3 := ak (blk_below BK3.1 hb); have n_HB := ak (below_step HB.1 hb); clear BK3; clear HB; have BK3 := n_BK3; have HB := n_HB; clear n_BK3 n_HB; clear e0 e1 e2 e3 e4; have e0 := blk_cell BK3.1 0; have e1 := blk_cell BK3.1 1; have e2 := blk_cell BK3.1 2; have e3 := blk_cell BK3.1 3; have e4 := blk_cell BK3.1 4; try simp at e0 e1 e2 e3 e4; clear hb))
  go_ret
  exact ⟨rfl, HB.1⟩
 | true =>
  by_cases h1 : a2 < 0
  ·have x1 : decide (a2 < 0) = true := decide_eq_true h1; clear h1
   go_wp2_with ((go_at_call 102; refine (floor_is.calls _ _ _ _ _ l0_3 _ _ l0_4 _ _ _ (Kd.C_below HR3.1 HB.1) HC3.1 (Kd.C_below HR4.1 HB.1) HC4.1 HIS.1).mono ?_; rintro e w102_ ⟨rfl, hb⟩; have n_BK3 := ak (blk_below BK3.1 hb); have n_HB := ak (below_step HB.1 hb); clear BK3; clear HB; have BK3 := n_BK3; have HB := n_HB; clear n_BK3 n_HB; clear e0 e1 e2 e3 e4; have e0 := blk_cell BK3.1 0; have e1 := blk_cell BK3.1 1; have e2 := blk_cell BK3.1 2; have e3 := blk_cell BK3.1 3; have e4 := blk_cell BK3.1 4; try simp at e0 e1 e2 e3 e4; clear hb))
   go_ret
   exact ⟨rfl, HB.1⟩
  ·have x1 : decide (a2 < 0) = false := decide_eq_false h1; have x2 : decide (a2 ≥ 6) = true := decide_eq_true (by have := HH.1; simp at this; omega); clear h1
   go_wp2_with ((go_at_call 102; refine (floor_is.calls _ _ _ _ _ l0_3 _ _ l0_4 _ _ _ (Kd.C_below HR3.1 HB.1) HC3.1 (Kd.C_below HR4.1 HB.1) HC4.1 HIS.1).mono ?_; rintro e w102_ ⟨rfl, hb⟩; have n_BK3 := ak (blk_below BK3.1 hb); have n_HB := ak (below_step HB.1 hb); clear BK3; clear HB; have BK3 := n_BK3; have HB := n_HB; clear n_BK3 n_HB; clear e0 e1 e2 e3 e4; have e0 := blk_cell BK3.1 0; have e1 := blk_cell BK3.1 1; have e2 := blk_cell BK3.1 2; have e3 := blk_cell BK3.1 3; have e4 := blk_cell BK3.1 4; try simp at e0 e1 e2 e3 e4; clear hb))
   go_ret
   exact ⟨rfl, HB.1⟩
theorem steps_at0 (w : World) : (Instr.index 131 (.agg stepsL.toArray) (.int .i64 0)).run Try.prog w = .ok (.agg #[.int .i64 1, .int .i64 0, .int .i64 0]) w := by kernel_rfl
theorem steps_at1 (w : World) : (Instr.index 131 (.agg stepsL.toArray) (.int .i64 1)).run Try.prog w = .ok (.agg #[.int .i64 0, .int .i64 1, .int .i64 0]) w := by kernel_rfl
theorem steps_at2 (w : World) : (Instr.index 131 (.agg stepsL.toArray) (.int .i64 2)).run Try.prog w = .ok (.agg #[.int .i64 (-1), .int .i64 0, .int .i64 0]) w := by kernel_rfl
theorem steps_at3 (w : World) : (Instr.index 131 (.agg stepsL.toArray) (.int .i64 3)).run Try.prog w = .ok (.agg #[.int .i64 0, .int .i64 (-1), .int .i64 0]) w := by kernel_rfl
theorem steps_at4 (w : World) : (Instr.index 131 (.agg stepsL.toArray) (.int .i64 4)).run Try.prog w = .ok (.agg #[.int .i64 0, .int .i64 0, .int .i64 1]) w := by kernel_rfl
theorem steps_at5 (w : World) : (Instr.index 131 (.agg stepsL.toArray) (.int .i64 5)).run Try.prog w = .ok (.agg #[.int .i64 0, .int .i64 0, .int .i64 (-1)]) w := by kernel_rfl
theorem steps_at (k : Nat) (hk : k < 6) (x y z : Int) (hx : x = sx k) (hy : y = sy k) (hz : z = sz k) (w : World) : (Instr.index 131 (.agg stepsL.toArray) (.int .i64 (k : Int))).run Try.prog w = .ok (.agg #[.int .i64 x, .int .i64 y, .int .i64 z]) w := by
 subst hx hy hz
 have h : k = 0 ∨ k = 1 ∨ k = 2 ∨ k = 3 ∨ k = 4 ∨ k = 5 := by omega
 rcases h with rfl | rfl | rfl | rfl | rfl | rfl
 ·exact steps_at0 w
 ·exact steps_at1 w
 ·exact steps_at2 w
 ·exact steps_at3 w
 ·exact steps_at4 w
 ·exact steps_at5 w
set_option maxHeartbeats 2000000 in
set_option maxRecDepth 100000 in
theorem beside_yes (a0_0 : Int) (a0_1 : Int) (a0_2 : Int) (A0_3 : Option Addr) (c0_3 : Nat) (l0_3 : List Int) (A0_4 : Option Addr) (c0_4 : Nat) (l0_4 : List Int) (a1 : Int) (k : Nat) (x y z u v t r : Int) (w : World) (hr0_3 : Kd.C (Kd.int .i64) w A0_3 l0_3.length l0_3) (hc0_3 : l0_3.length ≤ c0_3) (hr0_4 : Kd.C (Kd.int .i64) w A0_4 l0_4.length l0_4) (hc0_4 : l0_4.length ≤ c0_4) (hk : k < 6) (hx : u = sx k) (hy : v = sy k) (hz : t = sz k) (his : floor_is.f a0_0 a0_1 a0_2 l0_3 l0_4 a1 = some true) (hat : floor_At.f a0_0 a0_1 a0_2 l0_3 l0_4 a1 = some (x, y, z)) (hce : floor_Cell.f a0_0 a0_1 a0_2 l0_3 l0_4 (wrap64 (x + u)) (wrap64 (y + v)) (wrap64 (z + t)) = some r) :
  Calls Try.prog 93 #[.agg #[.int .i64 a0_0, .int .i64 a0_1, .int .i64 a0_2, .slice A0_3 l0_3.length c0_3, .slice A0_4 l0_4.length c0_4], .int .i64 a1, .int .i64 (k : Int)] w fun e w' => e = .returned (.int .i64 r) ∧ Below w.heap.size w w' := by
 have hu24 := Try.underlying24; have HB := ak (Below.refl w.heap.size w); have HR3 := ak hr0_3; have HC3 := ak hc0_3; have HR4 := ak hr0_4; have HC4 := ak hc0_4; clear hr0_3 hc0_3 hr0_4 hc0_4; have hu130 := Try.underlying130; have HIS := ak his; have HAT := ak hat; have HCE := ak hce; have hst := fun (W : World) => steps_at k hk u v t hx hy hz W; have x1 : decide ((k : Int) < 0) = false := decide_eq_false (by omega); have x2 : decide ((k : Int) ≥ 6) = false := decide_eq_false (by omega); clear his hat hce hx hy hz hk
 go_enter Try.func93, Try.ntmps93
 go_upto_region 1 with (first | ((with_reducible refine gate_dst (N := 3) rfl ?_); refine box_event ?hg (N := 3) ?hd (cs := #[.int .i64 a0_0, .int .i64 a0_1, .int .i64 a0_2, .slice A0_3 l0_3.length c0_3, .slice A0_4 l0_4.length c0_4]) (t := 24) ?hr ?_; (case hd => rfl); (case hg => rfl); (case hr => first | (go_simp; done) | (go_simp; rfl)); intro g3 hg w3 hbox hb; have GE3 := ak (show w.heap.size ≤ g3 by have := HB.1.size; omega); have n_HB := ak (below_step HB.1 hb); clear HB; have HB := n_HB; clear n_HB; have BK3 := ak hbox; clear hbox hb hg))
 have e0 := blk_cell BK3.1 0; have e1 := blk_cell BK3.1 1; have e2 := blk_cell BK3.1 2; have e3 := blk_cell BK3.1 3; have e4 := blk_cell BK3.1 4
 try simp at e0 e1 e2 e3 e4
 go_wp2_with (first | (go_at_call 102; refine (floor_is.calls _ _ _ _ _ l0_3 _ _ l0_4 _ _ _ (Kd.C_below HR3.1 HB.1) HC3.1 (Kd.C_below HR4.1 HB.1) HC4.1 HIS.1).mono ?_; rintro e w102_ ⟨rfl, hb⟩; have n_BK3 := ak (blk_below BK3.1 hb); have n_HB := ak (below_step HB.1 hb); clear BK3; clear HB; have BK3 := n_BK3; have HB := n_HB; clear n_BK3 n_HB; clear e0 e1 e2 e3 e4; have e0 := blk_cell BK3.1 0; have e1 := blk_cell BK3.1 1; have e2 := blk_cell BK3.1 2; have e3 := blk_cell BK3.1 3; have e4 := blk_cell BK3.1 4; try simp at e0 e1 e2 e3 e4; clear hb) | (go_at_call 103; refine (floor_At.calls _ _ _ _ _ l0_3 _ _ l0_4 _ _ _ _ _ (Kd.C_below HR3.1 HB.1) HC3.1 (Kd.C_below HR4.1 HB.1) HC4.1 HAT.1).mono ?_; rintro e w103_ ⟨rfl, hb⟩; have n_BK3 := ak (blk_below BK3.1 hb); have n_HB := ak (below_step HB.1 hb); clear BK3; clear HB; have BK3 := n_BK3; have HB := n_HB; clear n_BK3 n_HB; clear e0 e1 e2 e3 e4; have e0 := blk_cell BK3.1 0; have e1 := blk_cell BK3.1 1; have e2 := blk_cell BK3.1 2; have e3 := blk_cell BK3.1 3; have e4 := blk_cell BK3.1 4; try simp at e0 e1 e2 e3 e4; clear hb) | (go_at_call 104; refine (floor_steps.calls _).mono ?_; rintro e w104_ ⟨rfl, hb⟩; have n_BK3 := ak (blk_below BK3.1 hb); have n_HB := ak (below_step HB.1 hb); clear BK3; clear HB; have BK3 := n_BK3; have HB := n_HB; clear n_BK3 n_HB; clear e0 e1 e2 e3 e4; have e0 := blk_cell BK3.1 0; have e1 := blk_cell BK3.1 1; have e2 := blk_cell BK3.1 2; have e3 := blk_cell BK3.1 3; have e4 := blk_cell BK3.1 4; try simp at e0 e1 e2 e3 e4; have hg3 := blk_lt BK3.1; clear hb) | (go_at_call 105; refine (floor_Cell.calls _ _ _ _ _ l0_3 _ _ l0_4 _ _ _ _ _ (Kd.C_below HR3.1 (below_alloc HB.1 _)) HC3.1 (Kd.C_below HR4.1 (below_alloc HB.1 _)) HC4.1 HCE.1).mono ?_; rintro e w105_ ⟨rfl, hb⟩; have HB5 := ak (below_step (below_alloc HB.1 _) hb); clear hb))
 go_ret
 exact ⟨rfl, HB5.1⟩
theorem floor_beside.calls (a0_0 : Int) (a0_1 : Int) (a0_2 : Int) (A0_3 : Option Addr) (c0_3 : Nat) (l0_3 : List Int) (A0_4 : Option Addr) (c0_4 : Nat) (l0_4 : List Int) (a1 : Int) (a2 : Int) (r : Int) (w : World) (hr0_3 : Kd.C (Kd.int .i64) w A0_3 l0_3.length l0_3) (hc0_3 : l0_3.length ≤ c0_3) (hr0_4 : Kd.C (Kd.int .i64) w A0_4 l0_4.length l0_4) (hc0_4 : l0_4.length ≤ c0_4) (h : floor_beside.f a0_0 a0_1 a0_2 l0_3 l0_4 a1 a2 = some r) :
  Calls Try.prog 93 #[.agg #[.int .i64 a0_0, .int .i64 a0_1, .int .i64 a0_2, .slice A0_3 l0_3.length c0_3, .slice A0_4 l0_4.length c0_4], .int .i64 a1, .int .i64 a2] w fun e w' => e = .returned (.int .i64 r) ∧ Below w.heap.size w w' := by
 unfold floor_beside.f at h
 obtain ⟨b, hb, h⟩ := Option.bind_eq_some_iff.1 h
 cases b with
 | false =>
  simp only [Bool.false_eq_true, if_false] at h; obtain rfl := Option.some.inj h; exact beside_no _ _ _ _ _ _ _ _ _ _ _ false w hr0_3 hc0_3 hr0_4 hc0_4 hb (.inl rfl)
 | true =>
  simp only [if_true] at h
  by_cases h1 : a2 < 0
  ·rw [if_pos h1] at h; obtain rfl := Option.some.inj h; exact beside_no _ _ _ _ _ _ _ _ _ _ _ true w hr0_3 hc0_3 hr0_4 hc0_4 hb (.inr (.inl h1))
  ·rw [if_neg h1] at h
   by_cases h2 : a2 ≥ 6
   ·rw [if_pos h2] at h; obtain rfl := Option.some.inj h; exact beside_no _ _ _ _ _ _ _ _ _ _ _ true w hr0_3 hc0_3 hr0_4 hc0_4 hb (.inr (.inr h2))
   ·rw [if_neg h2] at h; obtain ⟨⟨x, y, z⟩, hp, h⟩ := Option.bind_eq_some_iff.1 h; obtain ⟨k, rfl⟩ : ∃ k : Nat, a2 = k := ⟨a2.toNat, by omega⟩; exact beside_yes _ _ _ _ _ _ _ _ _ _ k x y z _ _ _ r w hr0_3 hc0_3 hr0_4 hc0_4 (by omega) rfl rfl rfl hb hp h
end Go.Proofs.Ytogmjilaiopjmaa.P
end
section
namespace Go.Proofs.Ytogmjilaiopjmaa.P
open Go.RowKit Go.Proofs.YtogmjilaiopjmaaW.PrintWords Go.Proofs.YtogmjilaiopjmaaW.PrintLast Go.Proofs.YtogmjilaiopjmaaW.PrintMore
attribute [local go_sem] max2_int min2_int max_two min_two max_three min_three max_four min_four
def floor_Next.j0 : Nat → Int → Int → Int → Bool → Int → Int → Int → List Int → List Int → Option (Int × Bool)
 | 0, _, _, _, _, _, _, _, _, _ => none
 | k + 1, x1, x2, x8, x41, x110000, x110001, x110002, x110003, x110004 => if x41 = true then (some (0, false)) else (if x2 = 4 then (if 0 ≤ x1 then (if x1 < (x110003.length : Int) then (if (rd x110003 x1) = 6 then (if 0 ≤ x8 then (if x8 < (x110003.length : Int) then (if (rd x110003 x8) = 6 then (some (x8, true)) else (some (0, false))) else (none)) else (none)) else (some (0, false))) else (none)) else (none)) else (if x2 = 5 then (if 0 ≤ x1 then (if x1 < (x110003.length : Int) then (if (rd x110003 x1) = 6 then (if 0 ≤ x8 then (if x8 < (x110003.length : Int) then (if (rd x110003 x8) = 6 then (some (x8, true)) else (some (0, false))) else (none)) else (none)) else (some (0, false))) else (none)) else (none)) else (some (x8, true))))
def floor_Next.f (k : Nat) (a0_0 : Int) (a0_1 : Int) (a0_2 : Int) (l0_3 : List Int) (l0_4 : List Int) (a1 : Int) (a2 : Int) : Option (Int × Bool) := (floor_beside.f a0_0 a0_1 a0_2 l0_3 l0_4 a1 a2).bind fun t110 => (if t110 < 0 then (floor_Next.j0 k a1 a2 t110 true a0_0 a0_1 a0_2 l0_3 l0_4) else (if 0 ≤ a1 then (if a1 < (l0_3.length : Int) then (if (rd l0_3 a1) = 0 then (floor_Next.j0 k a1 a2 t110 true a0_0 a0_1 a0_2 l0_3 l0_4) else (if 0 ≤ t110 then (if t110 < (l0_3.length : Int) then (if (rd l0_3 t110) = 0 then (floor_Next.j0 k a1 a2 t110 true a0_0 a0_1 a0_2 l0_3 l0_4) else (if a1 < (l0_4.length : Int) then (if 0 ≤ a2 then (floor_Next.j0 k a1 a2 t110 ((Go.bits .and .i64 (shr .i64 (rd l0_4 a1) a2) 1) == 0) a0_0 a0_1 a0_2 l0_3 l0_4) else (none)) else (none))) else (none)) else (none))) else (none)) else (none)))
set_option maxHeartbeats 8000000 in
set_option maxRecDepth 100000 in
theorem floor_Next.calls (k : Nat) (a0_0 : Int) (a0_1 : Int) (a0_2 : Int) (A0_3 : Option Addr) (c0_3 : Nat) (l0_3 : List Int) (A0_4 : Option Addr) (c0_4 : Nat) (l0_4 : List Int) (a1 : Int) (a2 : Int) (r1 : Int) (r2 : Bool) (w : World) (hr0_3 : Kd.C (Kd.int .i64) w A0_3 l0_3.length l0_3) (hc0_3 : l0_3.length ≤ c0_3) (hr0_4 : Kd.C (Kd.int .i64) w A0_4 l0_4.length l0_4) (hc0_4 : l0_4.length ≤ c0_4) (h : floor_Next.f k a0_0 a0_1 a0_2 l0_3 l0_4 a1 a2 = some (r1, r2)) :
  Calls Try.prog 78 #[.agg #[.int .i64 a0_0, .int .i64 a0_1, .int .i64 a0_2, .slice A0_3 l0_3.length c0_3, .slice A0_4 l0_4.length c0_4], .int .i64 a1, .int .i64 a2] w fun e w' => e = .returned (.tuple #[.int .i64 r1, .bool r2]) ∧ Below w.heap.size w w' := by
 have hu24 := Try.underlying24; have HR0_3 := ak hr0_3; have HC0_3 := ak hc0_3; clear hr0_3 hc0_3; have HR0_4 := ak hr0_4; have HC0_4 := ak hc0_4; clear hr0_4 hc0_4; have HB := ak (Below.refl w.heap.size w); have H : ((floor_beside.f a0_0 a0_1 a0_2 l0_3 l0_4 a1 a2).bind fun t110 => (if t110 < 0 then (floor_Next.j0 k a1 a2 t110 true a0_0 a0_1 a0_2 l0_3 l0_4) else (if 0 ≤ a1 then (if a1 < (l0_3.length : Int) then (if (rd l0_3 a1) = 0 then (floor_Next.j0 k a1 a2 t110 true a0_0 a0_1 a0_2 l0_3 l0_4) else (if 0 ≤ t110 then (if t110 < (l0_3.length : Int) then (if (rd l0_3 t110) = 0 then (floor_Next.j0 k a1 a2 t110 true a0_0 a0_1 a0_2 l0_3 l0_4) else (if a1 < (l0_4.length : Int) then (if 0 ≤ a2 then (floor_Next.j0 k a1 a2 t110 ((Go.bits .and .i64 (shr .i64 (rd l0_4 a1) a2) 1) == 0) a0_0 a0_1 a0_2 l0_3 l0_4) else (none)) else (none))) else (none)) else (none))) else (none)) else (none)))) = some (r1, r2) := h; clear h; replace H := Option.bind_eq_some_iff.mp H; obtain ⟨t110, A40, H⟩ := H
 replace H : (if t110 < 0 then (floor_Next.j0 k a1 a2 t110 true a0_0 a0_1 a0_2 l0_3 l0_4) else (if 0 ≤ a1 then (if a1 < (l0_3.length : Int) then (if (rd l0_3 a1) = 0 then (floor_Next.j0 k a1 a2 t110 true a0_0 a0_1 a0_2 l0_3 l0_4) else (if 0 ≤ t110 then (if t110 < (l0_3.length : Int) then (if (rd l0_3 t110) = 0 then (floor_Next.j0 k a1 a2 t110 true a0_0 a0_1 a0_2 l0_3 l0_4) else (if a1 < (l0_4.length : Int) then (if 0 ≤ a2 then (floor_Next.j0 k a1 a2 t110 ((Go.bits .and .i64 (shr .i64 (rd l0_4 a1) a2) 1) == 0) a0_0 a0_1 a0_2 l0_3 l0_4) else (none)) else (none))) else (none)) else (none))) else (none)) else (none))) = some (r1, r2) := H
 have A4 := ak A40; clear A40; have HC5 := ak H; clear H
 go_enter Try.func78, Try.ntmps78
 go_upto_region 2 with (first | ((with_reducible refine gate_dst (N := 3) rfl ?_); refine box_event ?hg (N := 3) ?hd (cs := #[.int .i64 a0_0, .int .i64 a0_1, .int .i64 a0_2, .slice A0_3 l0_3.length c0_3, .slice A0_4 l0_4.length c0_4]) (t := 24) ?hr ?_; (case hd => rfl); (case hg => rfl); (case hr => first | (go_simp; done) | (go_simp; rfl)); intro gb109 hg w6 hbox hb; have BK109 := ak (hbox); have GW109 := gw_ hg HB.1.size; have GE109 := gw_ hg HB.1.size; replace HB := ak (below_step HB.1 hb); clear hb hbox hg; obtain ⟨hcz7_0, hcz7_1, hcz7_2, hcz7_3, hcz7_4, hfz7_0, hfz7_1, hfz7_2, hfz7_3, hfz7_4⟩ := bk5 BK109.1) | ((with_reducible refine gate_callee (f := 93) rfl ?_); refine goesL_ (some 12) rfl rfl Try.func93 (by kernel_rfl) rfl #[.agg #[.int .i64 a0_0, .int .i64 a0_1, .int .i64 a0_2, .slice A0_3 l0_3.length c0_3, .slice A0_4 l0_4.length c0_4], .int .i64 a1, .int .i64 a2] rfl (sm_) ?_; (with_reducible refine (floor_beside.calls a0_0 a0_1 a0_2 _ _ l0_3 _ _ l0_4 a1 a2 t110 _ ?side1 ?side2 ?side3 ?side4 A4.1).mono ?_); (case side1 => exact (Kd.C_below HR0_3.1 HB.1)); (case side2 => exact HC0_3.1); (case side3 => exact (Kd.C_below HR0_4.1 HB.1)); (case side4 => exact HC0_4.1); rintro e w8 ⟨rfl, hb⟩; refine ⟨_, rfl, ?_⟩; replace BK109 := ak (blk_below BK109.1 hb); replace HB := ak (below_step HB.1 hb); (try clear hb)))
 (try simp only [Act.put, List.setIfInBounds_toArray, List.set_cons_zero, List.set_cons_succ])
 go_cut [41] (fun v41 wc => ∃ (kq : Nat) (x41_4 : Bool), v41 = .bool x41_4 ∧ Aside0 (floor_Next.j0 kq a1 a2 t110 x41_4 a0_0 a0_1 a0_2 l0_3 l0_4 = some (r1, r2)) ∧ Aside0 (kq ≤ k) ∧ Aside0 (wc.heap[gb109]? = some (.cells #[.int .i64 a0_0, .int .i64 a0_1, .int .i64 a0_2, (.slice A0_3 l0_3.length c0_3), (.slice A0_4 l0_4.length c0_4)] 24 (0, 0))) ∧ Aside0 (Below w.heap.size w wc))
 case first =>
  have H := HC5.1; clear HC5
  by_cases c9 : t110 < 0
  ·rw [if_pos c9] at H; have c9b0 : decide (t110 < 0) = true := decide_eq_true c9; clear c9; (first | rw [c9b0] | (simp only [i64_w, i32_w]; rw [c9b0]) | skip); have H' := ak H; clear H
   go_wp2
   go_meet
   case rel => exact ⟨_, (true), (rs_), H', ⟨by first | omega | exact Nat.le_refl _⟩, ⟨by (with_reducible repeat (first | refine blk_drewN ?_ _ | refine blk_drew ?_ | refine blk_alloc ?_ _)); exact BK109.1⟩, ⟨hq1_ HB.1 GE109.1⟩⟩
  ·rw [if_neg c9] at H; have c9b0 : decide (t110 < 0) = false := decide_eq_false c9; clear c9; (first | rw [c9b0] | (simp only [i64_w, i32_w]; rw [c9b0]) | skip)
   by_cases c10 : 0 ≤ a1
   ·rw [if_pos c10] at H; have c10b0 : decide (0 ≤ a1) = true := decide_eq_true c10; clear c10
    by_cases c11 : a1 < (l0_3.length : Int)
    ·rw [if_pos c11] at H; have c11b0 : decide (a1 < (l0_3.length : Int)) = true := decide_eq_true c11; clear c11
     by_cases c12 : (rd l0_3 a1) = 0
     ·rw [if_pos c12] at H; have c12b0 : ((rd l0_3 a1) == 0) = true := beq_iff_eq.mpr c12; have c12b1 : ((rd l0_3 a1) != 0) = false := bne_eq_false_iff_eq.mpr c12; clear c12; have H' := ak H; clear H; have hcz13_0 : w8.cell? ⟨gb109, 0, none⟩ = some (.int .i64 a0_0) := (blk_cell BK109.1 0).trans rfl; have hcz13_1 : w8.cell? ⟨gb109, 1, none⟩ = some (.int .i64 a0_1) := (blk_cell BK109.1 1).trans rfl; have hcz13_2 : w8.cell? ⟨gb109, 2, none⟩ = some (.int .i64 a0_2) := (blk_cell BK109.1 2).trans rfl; have hcz13_3 : w8.cell? ⟨gb109, 3, none⟩ = some (.slice A0_3 l0_3.length c0_3) := (blk_cell BK109.1 3).trans rfl; have hcz13_4 : w8.cell? ⟨gb109, 4, none⟩ = some (.slice A0_4 l0_4.length c0_4) := (blk_cell BK109.1 4).trans rfl; have hfz13_0 := blk_frozen BK109.1 0; have hfz13_1 := blk_frozen BK109.1 1; have hfz13_2 := blk_frozen BK109.1 2; have hfz13_3 := blk_frozen BK109.1 3; have hfz13_4 := blk_frozen BK109.1 4; have p111 : 0 ≤ (a1 : Int) := of_decide_eq_true (as_); have q111 : a1 < (l0_3.length : Int) := of_decide_eq_true (as_); obtain ⟨ad111, e111, hx111_0⟩ := Kd.at_int HR0_3.1 a1 p111 q111
      cases e111
      replace hx111_0 := (HB.1.cell (World.block_lt_of_cell? w _ hx111_0)).trans hx111_0; replace p111 := eq_true p111; replace q111 := eq_true q111
      go_wp2
      go_meet
      case rel => exact ⟨_, (true), (rs_), H', ⟨by first | omega | exact Nat.le_refl _⟩, ⟨by (with_reducible repeat (first | refine blk_drewN ?_ _ | refine blk_drew ?_ | refine blk_alloc ?_ _)); exact BK109.1⟩, ⟨hq1_ HB.1 GE109.1⟩⟩
     ·rw [if_neg c12] at H; have c12b0 : ((rd l0_3 a1) == 0) = false := beq_eq_false_iff_ne.mpr c12; have c12b1 : ((rd l0_3 a1) != 0) = true := bne_iff_ne.mpr c12
      by_cases c14 : 0 ≤ t110
      ·rw [if_pos c14] at H; have c14b0 : decide (0 ≤ t110) = true := decide_eq_true c14; clear c14
       by_cases c15 : t110 < (l0_3.length : Int)
       ·rw [if_pos c15] at H; have c15b0 : decide (t110 < (l0_3.length : Int)) = true := decide_eq_true c15; clear c15
        by_cases c16 : (rd l0_3 t110) = 0
        ·rw [if_pos c16] at H; have c16b0 : ((rd l0_3 t110) == 0) = true := beq_iff_eq.mpr c16; have c16b1 : ((rd l0_3 t110) != 0) = false := bne_eq_false_iff_eq.mpr c16; clear c16; have H' := ak H; clear H; have hcz17_0 : w8.cell? ⟨gb109, 0, none⟩ = some (.int .i64 a0_0) := (blk_cell BK109.1 0).trans rfl; have hcz17_1 : w8.cell? ⟨gb109, 1, none⟩ = some (.int .i64 a0_1) := (blk_cell BK109.1 1).trans rfl; have hcz17_2 : w8.cell? ⟨gb109, 2, none⟩ = some (.int .i64 a0_2) := (blk_cell BK109.1 2).trans rfl; have hcz17_3 : w8.cell? ⟨gb109, 3, none⟩ = some (.slice A0_3 l0_3.length c0_3) := (blk_cell BK109.1 3).trans rfl; have hcz17_4 : w8.cell? ⟨gb109, 4, none⟩ = some (.slice A0_4 l0_4.length c0_4) := (blk_cell BK109.1 4).trans rfl; have hfz17_0 := blk_frozen BK109.1 0; have hfz17_1 := blk_frozen BK109.1 1; have hfz17_2 := blk_frozen BK109.1 2; have hfz17_3 := blk_frozen BK109.1 3; have hfz17_4 := blk_frozen BK109.1 4; have p111 : 0 ≤ (a1 : Int) := of_decide_eq_true (as_); have q111 : a1 < (l0_3.length : Int) := of_decide_eq_true (as_); obtain ⟨ad111, e111, hx111_0⟩ := Kd.at_int HR0_3.1 a1 p111 q111
         cases e111
         replace hx111_0 := (HB.1.cell (World.block_lt_of_cell? w _ hx111_0)).trans hx111_0; replace p111 := eq_true p111; replace q111 := eq_true q111; have p112 : 0 ≤ (t110 : Int) := of_decide_eq_true (as_); have q112 : t110 < (l0_3.length : Int) := of_decide_eq_true (as_); obtain ⟨ad112, e112, hx112_0⟩ := Kd.at_int HR0_3.1 t110 p112 q112; obtain rfl : ad111 = ad112 := (by injection e112); replace hx112_0 := (HB.1.cell (World.block_lt_of_cell? w _ hx112_0)).trans hx112_0; replace p112 := eq_true p112; replace q112 := eq_true q112
         go_wp2
         go_meet
         case rel => exact ⟨_, (true), (rs_), H', ⟨by first | omega | exact Nat.le_refl _⟩, ⟨by (with_reducible repeat (first | refine blk_drewN ?_ _ | refine blk_drew ?_ | refine blk_alloc ?_ _)); exact BK109.1⟩, ⟨hq1_ HB.1 GE109.1⟩⟩
        ·rw [if_neg c16] at H; have c16b0 : ((rd l0_3 t110) == 0) = false := beq_eq_false_iff_ne.mpr c16; have c16b1 : ((rd l0_3 t110) != 0) = true := bne_iff_ne.mpr c16
         by_cases c18 : a1 < (l0_4.length : Int)
         ·rw [if_pos c18] at H; have c18b0 : decide (a1 < (l0_4.length : Int)) = true := decide_eq_true c18; clear c18
          by_cases c19 : 0 ≤ a2
          ·rw [if_pos c19] at H; have c19b0 := eq_true c19; have c19b1 : decide (0 ≤ a2) = true := decide_eq_true c19; clear c19; obtain ⟨ji20, hji20⟩ : ∃ j_ : Int, (shr .i64 (rd l0_4 a1) a2) = j_ := ⟨_, rfl⟩
           replace H : (floor_Next.j0 k a1 a2 t110 ((Go.bits .and .i64 (ji20) 1) == 0) a0_0 a0_1 a0_2 l0_3 l0_4) = some (r1, r2) := by first | (rw [hji20] at H; exact H) | (simp only [hji20] at H ⊢; exact H)
           have hji20_ : ((rd l0_4 a1) / 2 ^ min a2.toNat 64) = ji20 := hji20; have hji20z : a2 ≤ 64 → ((rd l0_4 a1) / 2 ^ a2.toNat) = ji20 := shr_small hji20; have H' := ak H; clear H; have hcz21_0 : w8.cell? ⟨gb109, 0, none⟩ = some (.int .i64 a0_0) := (blk_cell BK109.1 0).trans rfl; have hcz21_1 : w8.cell? ⟨gb109, 1, none⟩ = some (.int .i64 a0_1) := (blk_cell BK109.1 1).trans rfl; have hcz21_2 : w8.cell? ⟨gb109, 2, none⟩ = some (.int .i64 a0_2) := (blk_cell BK109.1 2).trans rfl; have hcz21_3 : w8.cell? ⟨gb109, 3, none⟩ = some (.slice A0_3 l0_3.length c0_3) := (blk_cell BK109.1 3).trans rfl; have hcz21_4 : w8.cell? ⟨gb109, 4, none⟩ = some (.slice A0_4 l0_4.length c0_4) := (blk_cell BK109.1 4).trans rfl; have hfz21_0 := blk_frozen BK109.1 0; have hfz21_1 := blk_frozen BK109.1 1; have hfz21_2 := blk_frozen BK109.1 2; have hfz21_3 := blk_frozen BK109.1 3; have hfz21_4 := blk_frozen BK109.1 4; have p111 : 0 ≤ (a1 : Int) := of_decide_eq_true (as_); have q111 : a1 < (l0_3.length : Int) := of_decide_eq_true (as_); obtain ⟨ad111, e111, hx111_0⟩ := Kd.at_int HR0_3.1 a1 p111 q111
           cases e111
           replace hx111_0 := (HB.1.cell (World.block_lt_of_cell? w _ hx111_0)).trans hx111_0; replace p111 := eq_true p111; replace q111 := eq_true q111; have p112 : 0 ≤ (t110 : Int) := of_decide_eq_true (as_); have q112 : t110 < (l0_3.length : Int) := of_decide_eq_true (as_); obtain ⟨ad112, e112, hx112_0⟩ := Kd.at_int HR0_3.1 t110 p112 q112; obtain rfl : ad111 = ad112 := (by injection e112); replace hx112_0 := (HB.1.cell (World.block_lt_of_cell? w _ hx112_0)).trans hx112_0; replace p112 := eq_true p112; replace q112 := eq_true q112; have p113 : 0 ≤ (a1 : Int) := of_decide_eq_true (as_); have q113 : a1 < (l0_4.length : Int) := of_decide_eq_true (as_); obtain ⟨ad113, e113, hx113_0⟩ := Kd.at_int HR0_4.1 a1 p113 q113
           cases e113
           replace hx113_0 := (HB.1.cell (World.block_lt_of_cell? w _ hx113_0)).trans hx113_0; replace p113 := eq_true p113; replace q113 := eq_true q113
           go_wp2
           go_meet
           case rel => exact ⟨_, (((Go.bits .and .i64 (ji20) 1) == 0)), (by first | rfl | (simp; done) | (simp only [← hji20] <;> (first | rfl | simp)) | (simp [*]; done)), H', ⟨by first | omega | exact Nat.le_refl _⟩, ⟨by (with_reducible repeat (first | refine blk_drewN ?_ _ | refine blk_drew ?_ | refine blk_alloc ?_ _)); exact BK109.1⟩, ⟨hq1_ HB.1 GE109.1⟩⟩
          ·rw [if_neg c19] at H; exact absurd H (by simp)
         ·rw [if_neg c18] at H; exact absurd H (by simp)
       ·rw [if_neg c15] at H; exact absurd H (by simp)
      ·rw [if_neg c14] at H; exact absurd H (by simp)
    ·rw [if_neg c11] at H; exact absurd H (by simp)
   ·rw [if_neg c10] at H; exact absurd H (by simp)
 case rest =>
  clear HC5; (try clear c1); (try clear p1); (try clear q1); (try clear hx1); (try clear p2); (try clear c7); (try clear c9); (try clear c9b0); (try clear c10); (try clear c10b0); (try clear c11); (try clear c11b0); (try clear p11); (try clear q11); (try clear hx11); (try clear c12); (try clear c12b0); (try clear c12b1); (try clear c14); (try clear c14b0); (try clear c15); (try clear c15b0); (try clear c16); (try clear c16b0); (try clear c16b1); (try clear c18); (try clear c18b0); (try clear c19); (try clear c19b0); (try clear c19b1); (try clear hcz13_0); (try clear hcz13_1); (try clear hcz13_2); (try clear hcz13_3); (try clear hcz13_4); (try clear hcz17_0); (try clear hcz17_1); (try clear hcz17_2); (try clear hcz17_3); (try clear hcz17_4); (try clear hcz21_0); (try clear hcz21_1); (try clear hcz21_2); (try clear hcz21_3); (try clear hcz21_4); (try clear hcz7_0); (try clear hcz7_1); (try clear hcz7_2); (try clear hcz7_3); (try clear hcz7_4); (try clear hfz13_0); (try clear hfz13_1); (try clear hfz13_2); (try clear hfz13_3); (try clear hfz13_4); (try clear hfz17_0); (try clear hfz17_1); (try clear hfz17_2); (try clear hfz17_3); (try clear hfz17_4); (try clear hfz21_0); (try clear hfz21_1); (try clear hfz21_2); (try clear hfz21_3); (try clear hfz21_4); (try clear hfz7_0); (try clear hfz7_1); (try clear hfz7_2); (try clear hfz7_3); (try clear hfz7_4); (try clear hx111_0); (try clear hx112_0); (try clear hx113_0); (try clear p111); (try clear p112); (try clear p113); (try clear q111); (try clear q112); (try clear q113); obtain ⟨kq, x41_4, rfl, HA, HJ4, BK109, HB⟩ := hcut
  cases kq with
  | zero => exact absurd HA.1 (by simp [floor_Next.j0])
  | succ kj4 =>
   have H := HA.1; clear HA; simp only [floor_Next.j0] at H
   by_cases c22 : x41_4 = true
   ·subst c22
    have H1 : (some (0, false)) = some (r1, r2) := by rw [if_pos rfl] at H; exact H
    clear H; have H := H1; clear H1; simp only [Option.some.injEq, Prod.mk.injEq] at H; obtain ⟨rfl, rfl⟩ := H
    go_wp2
    go_ret2
    exact ⟨er_, hq1_ HB.1 GE109.1⟩
   ·replace c22 := Bool.eq_false_iff.mpr c22; subst c22
    have H1 : (if a2 = 4 then (if 0 ≤ a1 then (if a1 < (l0_3.length : Int) then (if (rd l0_3 a1) = 6 then (if 0 ≤ t110 then (if t110 < (l0_3.length : Int) then (if (rd l0_3 t110) = 6 then (some (t110, true)) else (some (0, false))) else (none)) else (none)) else (some (0, false))) else (none)) else (none)) else (if a2 = 5 then (if 0 ≤ a1 then (if a1 < (l0_3.length : Int) then (if (rd l0_3 a1) = 6 then (if 0 ≤ t110 then (if t110 < (l0_3.length : Int) then (if (rd l0_3 t110) = 6 then (some (t110, true)) else (some (0, false))) else (none)) else (none)) else (some (0, false))) else (none)) else (none)) else (some (t110, true)))) = some (r1, r2) := by rw [if_neg (show ¬ (false = true) by decide)] at H; exact H
    clear H; have H := H1; clear H1
    by_cases c23 : a2 = 4
    ·rw [if_pos c23] at H; have c23b0 : (a2 == 4) = true := beq_iff_eq.mpr c23; have c23b1 : (a2 != 4) = false := bne_eq_false_iff_eq.mpr c23; clear c23
     by_cases c24 : 0 ≤ a1
     ·rw [if_pos c24] at H; have c24b0 : decide (0 ≤ a1) = true := decide_eq_true c24; clear c24
      by_cases c25 : a1 < (l0_3.length : Int)
      ·rw [if_pos c25] at H; have c25b0 : decide (a1 < (l0_3.length : Int)) = true := decide_eq_true c25; clear c25
       by_cases c26 : (rd l0_3 a1) = 6
       ·rw [if_pos c26] at H; have c26b0 : ((rd l0_3 a1) == 6) = true := beq_iff_eq.mpr c26; have c26b1 : ((rd l0_3 a1) != 6) = false := bne_eq_false_iff_eq.mpr c26; clear c26
        by_cases c27 : 0 ≤ t110
        ·rw [if_pos c27] at H; have c27b0 : decide (0 ≤ t110) = true := decide_eq_true c27; clear c27
         by_cases c28 : t110 < (l0_3.length : Int)
         ·rw [if_pos c28] at H; have c28b0 : decide (t110 < (l0_3.length : Int)) = true := decide_eq_true c28; clear c28
          by_cases c29 : (rd l0_3 t110) = 6
          ·rw [if_pos c29] at H; have c29b0 : ((rd l0_3 t110) == 6) = true := beq_iff_eq.mpr c29; have c29b1 : ((rd l0_3 t110) != 6) = false := bne_eq_false_iff_eq.mpr c29; clear c29; simp only [Option.some.injEq, Prod.mk.injEq] at H; obtain ⟨rfl, rfl⟩ := H; have hcz30_0 : wc.cell? ⟨gb109, 0, none⟩ = some (.int .i64 a0_0) := (blk_cell BK109.1 0).trans rfl; have hcz30_1 : wc.cell? ⟨gb109, 1, none⟩ = some (.int .i64 a0_1) := (blk_cell BK109.1 1).trans rfl; have hcz30_2 : wc.cell? ⟨gb109, 2, none⟩ = some (.int .i64 a0_2) := (blk_cell BK109.1 2).trans rfl; have hcz30_3 : wc.cell? ⟨gb109, 3, none⟩ = some (.slice A0_3 l0_3.length c0_3) := (blk_cell BK109.1 3).trans rfl; have hcz30_4 : wc.cell? ⟨gb109, 4, none⟩ = some (.slice A0_4 l0_4.length c0_4) := (blk_cell BK109.1 4).trans rfl; have hfz30_0 := blk_frozen BK109.1 0; have hfz30_1 := blk_frozen BK109.1 1; have hfz30_2 := blk_frozen BK109.1 2; have hfz30_3 := blk_frozen BK109.1 3; have hfz30_4 := blk_frozen BK109.1 4; have p114 : 0 ≤ (a1 : Int) := of_decide_eq_true (as_); have q114 : a1 < (l0_3.length : Int) := of_decide_eq_true (as_); obtain ⟨ad114, e114, hx114_0⟩ := Kd.at_int HR0_3.1 a1 p114 q114
           cases e114
           replace hx114_0 := (HB.1.cell (World.block_lt_of_cell? w _ hx114_0)).trans hx114_0; replace p114 := eq_true p114; replace q114 := eq_true q114; have p115 : 0 ≤ (t110 : Int) := of_decide_eq_true (as_); have q115 : t110 < (l0_3.length : Int) := of_decide_eq_true (as_); obtain ⟨ad115, e115, hx115_0⟩ := Kd.at_int HR0_3.1 t110 p115 q115; obtain rfl : ad114 = ad115 := (by injection e115); replace hx115_0 := (HB.1.cell (World.block_lt_of_cell? w _ hx115_0)).trans hx115_0; replace p115 := eq_true p115; replace q115 := eq_true q115
           go_wp2
           go_ret2
           exact ⟨er_, hq1_ HB.1 GE109.1⟩
          ·rw [if_neg c29] at H; have c29b0 : ((rd l0_3 t110) == 6) = false := beq_eq_false_iff_ne.mpr c29; have c29b1 : ((rd l0_3 t110) != 6) = true := bne_iff_ne.mpr c29; simp only [Option.some.injEq, Prod.mk.injEq] at H; obtain ⟨rfl, rfl⟩ := H; have hcz31_0 : wc.cell? ⟨gb109, 0, none⟩ = some (.int .i64 a0_0) := (blk_cell BK109.1 0).trans rfl; have hcz31_1 : wc.cell? ⟨gb109, 1, none⟩ = some (.int .i64 a0_1) := (blk_cell BK109.1 1).trans rfl; have hcz31_2 : wc.cell? ⟨gb109, 2, none⟩ = some (.int .i64 a0_2) := (blk_cell BK109.1 2).trans rfl; have hcz31_3 : wc.cell? ⟨gb109, 3, none⟩ = some (.slice A0_3 l0_3.length c0_3) := (blk_cell BK109.1 3).trans rfl; have hcz31_4 : wc.cell? ⟨gb109, 4, none⟩ = some (.slice A0_4 l0_4.length c0_4) := (blk_cell BK109.1 4).trans rfl; have hfz31_0 := blk_frozen BK109.1 0; have hfz31_1 := blk_frozen BK109.1 1; have hfz31_2 := blk_frozen BK109.1 2; have hfz31_3 := blk_frozen BK109.1 3; have hfz31_4 := blk_frozen BK109.1 4; have p114 : 0 ≤ (a1 : Int) := of_decide_eq_true (as_); have q114 : a1 < (l0_3.length : Int) := of_decide_eq_true (as_); obtain ⟨ad114, e114, hx114_0⟩ := Kd.at_int HR0_3.1 a1 p114 q114
           cases e114
           replace hx114_0 := (HB.1.cell (World.block_lt_of_cell? w _ hx114_0)).trans hx114_0; replace p114 := eq_true p114; replace q114 := eq_true q114; have p115 : 0 ≤ (t110 : Int) := of_decide_eq_true (as_); have q115 : t110 < (l0_3.length : Int) := of_decide_eq_true (as_); obtain ⟨ad115, e115, hx115_0⟩ := Kd.at_int HR0_3.1 t110 p115 q115; obtain rfl : ad114 = ad115 := (by injection e115); replace hx115_0 := (HB.1.cell (World.block_lt_of_cell? w _ hx115_0)).trans hx115_0; replace p115 := eq_true p115; replace q115 := eq_true q115
           go_wp2
           go_ret2
           exact ⟨er_, hq1_ HB.1 GE109.1⟩
         ·rw [if_neg c28] at H; exact absurd H (by simp)
        ·rw [if_neg c27] at H; exact absurd H (by simp)
       ·rw [if_neg c26] at H; have c26b0 : ((rd l0_3 a1) == 6) = false := beq_eq_false_iff_ne.mpr c26; have c26b1 : ((rd l0_3 a1) != 6) = true := bne_iff_ne.mpr c26; simp only [Option.some.injEq, Prod.mk.injEq] at H; obtain ⟨rfl, rfl⟩ := H; have hcz32_0 : wc.cell? ⟨gb109, 0, none⟩ = some (.int .i64 a0_0) := (blk_cell BK109.1 0).trans rfl; have hcz32_1 : wc.cell? ⟨gb109, 1, none⟩ = some (.int .i64 a0_1) := (blk_cell BK109.1 1).trans rfl; have hcz32_2 : wc.cell? ⟨gb109, 2, none⟩ = some (.int .i64 a0_2) := (blk_cell BK109.1 2).trans rfl; have hcz32_3 : wc.cell? ⟨gb109, 3, none⟩ = some (.slice A0_3 l0_3.length c0_3) := (blk_cell BK109.1 3).trans rfl; have hcz32_4 : wc.cell? ⟨gb109, 4, none⟩ = some (.slice A0_4 l0_4.length c0_4) := (blk_cell BK109.1 4).trans rfl; have hfz32_0 := blk_frozen BK109.1 0; have hfz32_1 := blk_frozen BK109.1 1; have hfz32_2 := blk_frozen BK109.1 2; have hfz32_3 := blk_frozen BK109.1 3; have hfz32_4 := blk_frozen BK109.1 4; have p114 : 0 ≤ (a1 : Int) := of_decide_eq_true (as_); have q114 : a1 < (l0_3.length : Int) := of_decide_eq_true (as_); obtain ⟨ad114, e114, hx114_0⟩ := Kd.at_int HR0_3.1 a1 p114 q114
        cases e114
        replace hx114_0 := (HB.1.cell (World.block_lt_of_cell? w _ hx114_0)).trans hx114_0; replace p114 := eq_true p114; replace q114 := eq_true q114
        go_wp2
        go_ret2
        exact ⟨er_, hq1_ HB.1 GE109.1⟩
      ·rw [if_neg c25] at H; exact absurd H (by simp)
     ·rw [if_neg c24] at H; exact absurd H (by simp)
    ·rw [if_neg c23] at H; have c23b0 : (a2 == 4) = false := beq_eq_false_iff_ne.mpr c23; have c23b1 : (a2 != 4) = true := bne_iff_ne.mpr c23
     by_cases c33 : a2 = 5
     ·rw [if_pos c33] at H; have c33b0 : (a2 == 5) = true := beq_iff_eq.mpr c33; have c33b1 : (a2 != 5) = false := bne_eq_false_iff_eq.mpr c33; clear c33
      by_cases c34 : 0 ≤ a1
      ·rw [if_pos c34] at H; have c34b0 : decide (0 ≤ a1) = true := decide_eq_true c34; clear c34
       by_cases c35 : a1 < (l0_3.length : Int)
       ·rw [if_pos c35] at H; have c35b0 : decide (a1 < (l0_3.length : Int)) = true := decide_eq_true c35; clear c35
        by_cases c36 : (rd l0_3 a1) = 6
        ·rw [if_pos c36] at H; have c36b0 : ((rd l0_3 a1) == 6) = true := beq_iff_eq.mpr c36; have c36b1 : ((rd l0_3 a1) != 6) = false := bne_eq_false_iff_eq.mpr c36; clear c36
         by_cases c37 : 0 ≤ t110
         ·rw [if_pos c37] at H; have c37b0 : decide (0 ≤ t110) = true := decide_eq_true c37; clear c37
          by_cases c38 : t110 < (l0_3.length : Int)
          ·rw [if_pos c38] at H; have c38b0 : decide (t110 < (l0_3.length : Int)) = true := decide_eq_true c38; clear c38
           by_cases c39 : (rd l0_3 t110) = 6
           ·rw [if_pos c39] at H; have c39b0 : ((rd l0_3 t110) == 6) = true := beq_iff_eq.mpr c39; have c39b1 : ((rd l0_3 t110) != 6) = false := bne_eq_false_iff_eq.mpr c39; clear c39; simp only [Option.some.injEq, Prod.mk.injEq] at H; obtain ⟨rfl, rfl⟩ := H; have hcz40_0 : wc.cell? ⟨gb109, 0, none⟩ = some (.int .i64 a0_0) := (blk_cell BK109.1 0).trans rfl; have hcz40_1 : wc.cell? ⟨gb109, 1, none⟩ = some (.int .i64 a0_1) := (blk_cell BK109.1 1).trans rfl; have hcz40_2 : wc.cell? ⟨gb109, 2, none⟩ = some (.int .i64 a0_2) := (blk_cell BK109.1 2).trans rfl; have hcz40_3 : wc.cell? ⟨gb109, 3, none⟩ = some (.slice A0_3 l0_3.length c0_3) := (blk_cell BK109.1 3).trans rfl; have hcz40_4 : wc.cell? ⟨gb109, 4, none⟩ = some (.slice A0_4 l0_4.length c0_4) := (blk_cell BK109.1 4).trans rfl; have hfz40_0 := blk_frozen BK109.1 0; have hfz40_1 := blk_frozen BK109.1 1; have hfz40_2 := blk_frozen BK109.1 2; have hfz40_3 := blk_frozen BK109.1 3; have hfz40_4 := blk_frozen BK109.1 4; have p116 : 0 ≤ (a1 : Int) := of_decide_eq_true (as_); have q116 : a1 < (l0_3.length : Int) := of_decide_eq_true (as_); obtain ⟨ad116, e116, hx116_0⟩ := Kd.at_int HR0_3.1 a1 p116 q116
            cases e116
            replace hx116_0 := (HB.1.cell (World.block_lt_of_cell? w _ hx116_0)).trans hx116_0; replace p116 := eq_true p116; replace q116 := eq_true q116; have p117 : 0 ≤ (t110 : Int) := of_decide_eq_true (as_); have q117 : t110 < (l0_3.length : Int) := of_decide_eq_true (as_); obtain ⟨ad117, e117, hx117_0⟩ := Kd.at_int HR0_3.1 t110 p117 q117; obtain rfl : ad116 = ad117 := (by injection e117); replace hx117_0 := (HB.1.cell (World.block_lt_of_cell? w _ hx117_0)).trans hx117_0; replace p117 := eq_true p117; replace q117 := eq_true q117
            go_wp2
            go_ret2
            exact ⟨er_, hq1_ HB.1 GE109.1⟩
           ·rw [if_neg c39] at H; have c39b0 : ((rd l0_3 t110) == 6) = false := beq_eq_false_iff_ne.mpr c39; have c39b1 : ((rd l0_3 t110) != 6) = true := bne_iff_ne.mpr c39; simp only [Option.some.injEq, Prod.mk.injEq] at H; obtain ⟨rfl, rfl⟩ := H; have hcz41_0 : wc.cell? ⟨gb109, 0, none⟩ = some (.int .i64 a0_0) := (blk_cell BK109.1 0).trans rfl; have hcz41_1 : wc.cell? ⟨gb109, 1, none⟩ = some (.int .i64 a0_1) := (blk_cell BK109.1 1).trans rfl; have hcz41_2 : wc.cell? ⟨gb109, 2, none⟩ = some (.int .i64 a0_2) := (blk_cell BK109.1 2).trans rfl; have hcz41_3 : wc.cell? ⟨gb109, 3, none⟩ = some (.slice A0_3 l0_3.length c0_3) := (blk_cell BK109.1 3).trans rfl; have hcz41_4 : wc.cell? ⟨gb109, 4, none⟩ = some (.slice A0_4 l0_4.length c0_4) := (blk_cell BK109.1 4).trans rfl; have hfz41_0 := blk_frozen BK109.1 0; have hfz41_1 := blk_frozen BK109.1 1; have hfz41_2 := blk_frozen BK109.1 2; have hfz41_3 := blk_frozen BK109.1 3; have hfz41_4 := blk_frozen BK109.1 4; have p116 : 0 ≤ (a1 : Int) := of_decide_eq_true (as_); have q116 : a1 < (l0_3.length : Int) := of_decide_eq_true (as_); obtain ⟨ad116, e116, hx116_0⟩ := Kd.at_int HR0_3.1 a1 p116 q116
            cases e116
            replace hx116_0 := (HB.1.cell (World.block_lt_of_cell? w _ hx116_0)).trans hx116_0; replace p116 := eq_true p116; replace q116 := eq_true q116; have p117 : 0 ≤ (t110 : Int) := of_decide_eq_true (as_); have q117 : t110 < (l0_3.length : Int) := of_decide_eq_true (as_); obtain ⟨ad117, e117, hx117_0⟩ := Kd.at_int HR0_3.1 t110 p117 q117; obtain rfl : ad116 = ad117 := (by injection e117); replace hx117_0 := (HB.1.cell (World.block_lt_of_cell? w _ hx117_0)).trans hx117_0; replace p117 := eq_true p117; replace q117 := eq_true q117
            go_wp2
            go_ret2
            exact ⟨er_, hq1_ HB.1 GE109.1⟩
          ·rw [if_neg c38] at H; exact absurd H (by simp)
         ·rw [if_neg c37] at H; exact absurd H (by simp)
        ·rw [if_neg c36] at H; have c36b0 : ((rd l0_3 a1) == 6) = false := beq_eq_false_iff_ne.mpr c36; have c36b1 : ((rd l0_3 a1) != 6) = true := bne_iff_ne.mpr c36; simp only [Option.some.injEq, Prod.mk.injEq] at H; obtain ⟨rfl, rfl⟩ := H; have hcz42_0 : wc.cell? ⟨gb109, 0, none⟩ = some (.int .i64 a0_0) := (blk_cell BK109.1 0).trans rfl; have hcz42_1 : wc.cell? ⟨gb109, 1, none⟩ = some (.int .i64 a0_1) := (blk_cell BK109.1 1).trans rfl; have hcz42_2 : wc.cell? ⟨gb109, 2, none⟩ = some (.int .i64 a0_2) := (blk_cell BK109.1 2).trans rfl; have hcz42_3 : wc.cell? ⟨gb109, 3, none⟩ = some (.slice A0_3 l0_3.length c0_3) := (blk_cell BK109.1 3).trans rfl; have hcz42_4 : wc.cell? ⟨gb109, 4, none⟩ = some (.slice A0_4 l0_4.length c0_4) := (blk_cell BK109.1 4).trans rfl; have hfz42_0 := blk_frozen BK109.1 0; have hfz42_1 := blk_frozen BK109.1 1; have hfz42_2 := blk_frozen BK109.1 2; have hfz42_3 := blk_frozen BK109.1 3; have hfz42_4 := blk_frozen BK109.1 4; have p116 : 0 ≤ (a1 : Int) := of_decide_eq_true (as_); have q116 : a1 < (l0_3.length : Int) := of_decide_eq_true (as_); obtain ⟨ad116, e116, hx116_0⟩ := Kd.at_int HR0_3.1 a1 p116 q116
         cases e116
         replace hx116_0 := (HB.1.cell (World.block_lt_of_cell? w _ hx116_0)).trans hx116_0; replace p116 := eq_true p116; replace q116 := eq_true q116
         go_wp2
         go_ret2
         exact ⟨er_, hq1_ HB.1 GE109.1⟩
       ·rw [if_neg c35] at H; exact absurd H (by simp)
      ·rw [if_neg c34] at H; exact absurd H (by simp)
     ·rw [if_neg c33] at H; have c33b0 : (a2 == 5) = false := beq_eq_false_iff_ne.mpr c33; have c33b1 : (a2 != 5) = true := bne_iff_ne.mpr c33; simp only [Option.some.injEq, Prod.mk.injEq] at H; obtain ⟨rfl, rfl⟩ := H
      go_wp2
      go_ret2
      exact ⟨er_, hq1_ HB.1 GE109.1⟩
end Go.Proofs.Ytogmjilaiopjmaa.P
end
section
namespace Go.Proofs.Ytogmjilaiopjmaa.P
open Go.RowKit Go.Proofs.YtogmjilaiopjmaaW.PrintWords Go.Proofs.YtogmjilaiopjmaaW.PrintLast Go.Proofs.YtogmjilaiopjmaaW.PrintMore
structure FloorOk (W H D : Int) (K O : List Int) : Prop where
 w1 : 1 ≤ W
 w2 : W ≤ 4096
 h1 : 1 ≤ H
 h2 : H ≤ 4096
 d1 : 1 ≤ D
 d2 : D ≤ 4
 sz : W * H * D ≤ 4096
 kl : (K.length : Int) = W * H * D
 ol : (O.length : Int) = W * H * D
section
variable {W H D : Int} {K O : List Int}
theorem FloorOk.wh (h : FloorOk W H D K O) : 1 ≤ W * H ∧ W * H ≤ 4096 := by
 have hw := h.w1; have hh := h.h1; have hd := h.d1; have hs := h.sz; have h1 : 1 * 1 ≤ W * H := Int.mul_le_mul hw hh (by omega) (by omega); have h2 : W * H * 1 ≤ W * H * D := Int.mul_le_mul_of_nonneg_left hd (by omega)
 omega
theorem wrap_small {x : Int} (h0 : -1000000000 ≤ x) (h1 : x ≤ 1000000000) : wrap64 x = x := wrap_id (by omega) (by omega)
theorem FloorOk.size_f (h : FloorOk W H D K O) : floor_size.f W H D K O = some (W * H * D) := by
 have h1 := h.wh; have h2 : 0 ≤ W * H * D := Int.mul_nonneg (by omega) (by have := h.d1; omega)
 unfold floor_size.f
 rw [wrap_small (x := W * H) (by omega) (by omega), wrap_small (by omega) (by have := h.sz; omega)]
theorem FloorOk.is_f (h : FloorOk W H D K O) (c : Int) : floor_is.f W H D K O c = some (decide (0 ≤ c ∧ c < W * H * D)) := by
 unfold floor_is.f
 by_cases hc : c ≥ 0
 ·rw [if_pos hc, h.size_f]
  simp [hc]
 ·rw [if_neg hc]
  congr 1
  exact (decide_eq_false (by omega)).symm
theorem tdiv_wrap {c n : Int} (h0 : 0 ≤ c) (h1 : c ≤ 1000000) (hn : 1 ≤ n) : wrap64 (Int.tdiv c n) = c / n := by
 rw [Int.tdiv_eq_ediv_of_nonneg h0]; have h2 : 0 ≤ c / n := Int.ediv_nonneg h0 (by omega); have h3 : c / n ≤ c := Int.ediv_le_self n h0; exact wrap_small (by omega) (by omega)
theorem FloorOk.at_f (h : FloorOk W H D K O) {c : Int} (h0 : 0 ≤ c) (h1 : c < W * H * D) : floor_At.f W H D K O c = some (c % W, c / W % H, c / (W * H)) := by
 have hw := h.w1; have hh := h.h1; have hs := h.sz; have hwh := h.wh
 unfold floor_At.f
 rw [h.is_f, decide_eq_true ⟨h0, h1⟩]; simp only [Option.bind_some, if_true]; rw [wrap_small (x := W * H) (by omega) (by omega), if_neg (by omega), if_neg (by omega), if_neg (by omega), tdiv_wrap h0 (by omega) hw, tdiv_wrap h0 (by omega) (by omega), Int.tmod_eq_emod_of_nonneg h0, Int.tmod_eq_emod_of_nonneg (Int.ediv_nonneg h0 (by omega))]
def cellZ (W H D x y z : Int) : Int := if x < 0 ∨ y < 0 ∨ z < 0 ∨ W ≤ x ∨ H ≤ y ∨ D ≤ z then -1 else (z * H + y) * W + x
theorem place_le {W H D x y z : Int} (h0 : 0 ≤ x) (h1 : 0 ≤ y) (h2 : 0 ≤ z) (h3 : x < W) (h4 : y < H) (h5 : z < D) : 0 ≤ z * H ∧ z * H + y < H * D ∧ 0 ≤ (z * H + y) * W ∧ (z * H + y) * W + x < W * H * D := by
 have a1 : 0 ≤ z * H := Int.mul_nonneg h2 (by omega); have a2 : z * H ≤ (D - 1) * H := Int.mul_le_mul_of_nonneg_right (by omega) (by omega)
 have a3 : (D - 1) * H = H * D - H := by rw [Int.sub_mul, Int.one_mul, Int.mul_comm D H]
 have a4 : 0 ≤ (z * H + y) * W := Int.mul_nonneg (by omega) (by omega); have a5 : (z * H + y) * W ≤ (H * D - 1) * W := Int.mul_le_mul_of_nonneg_right (by omega) (by omega)
 have a6 : (H * D - 1) * W = W * H * D - W := by rw [Int.sub_mul, Int.one_mul, Int.mul_comm (H * D) W, Int.mul_assoc]
 exact ⟨a1, by omega, a4, by omega⟩
theorem FloorOk.cell_f (h : FloorOk W H D K O) {x y z : Int} (hx : x ≤ 10000) (hy : y ≤ 10000) (hz : z ≤ 10000) : floor_Cell.f W H D K O x y z = some (cellZ W H D x y z) := by
 have hw := h.w1; have hh := h.h1; have hd := h.d1; have hs := h.sz; have hwh := h.wh
 unfold floor_Cell.f cellZ
 by_cases hc : x < 0 ∨ y < 0 ∨ z < 0
 ·rw [if_pos (by unfold mn; split <;> split <;> omega), if_pos (by omega)]
 ·rw [if_neg (by unfold mn; split <;> split <;> omega)]
  by_cases h1 : x ≥ W
  ·rw [if_pos h1, if_pos (by omega)]
  ·rw [if_neg h1]
   by_cases h2 : y ≥ H
   ·rw [if_pos h2, if_pos (by omega)]
   ·rw [if_neg h2]
    by_cases h3 : z ≥ D
    ·rw [if_pos h3, if_pos (by omega)]
    ·rw [if_neg h3, if_neg (by omega)]; obtain ⟨b1, b2, b3, b4⟩ := place_le (W := W) (H := H) (D := D) (x := x) (y := y) (z := z) (by omega) (by omega) (by omega) (by omega) (by omega) (by omega)
     have b5 : H * D ≤ 4096 := by
      have : 1 * (H * D) ≤ W * (H * D) := Int.mul_le_mul_of_nonneg_right hw (by have := Int.mul_nonneg (show 0 ≤ H by omega) (show 0 ≤ D by omega); omega)
      rw [Int.one_mul, show W * (H * D) = W * H * D from (Int.mul_assoc W H D).symm] at this
      omega
     rw [wrap_small (x := z * H) (by omega) (by omega), wrap_small (x := z * H + y) (by omega) (by omega), wrap_small (x := (z * H + y) * W) (by omega) (by omega), wrap_small (by omega) (by omega)]
def besZ (W H D c d : Int) : Int := if 0 ≤ c ∧ c < W * H * D ∧ 0 ≤ d ∧ d < 6 then cellZ W H D (c % W + sx d) (c / W % H + sy d) (c / (W * H) + sz d) else -1
theorem sx_le (d : Int) : -1 ≤ sx d ∧ sx d ≤ 1 := by unfold sx; split <;> (try split) <;> omega
theorem sy_le (d : Int) : -1 ≤ sy d ∧ sy d ≤ 1 := by unfold sy; split <;> (try split) <;> omega
theorem sz_le (d : Int) : -1 ≤ sz d ∧ sz d ≤ 1 := by unfold sz; split <;> (try split) <;> omega
theorem FloorOk.place (h : FloorOk W H D K O) {c : Int} (h0 : 0 ≤ c) (h1 : c < W * H * D) : (0 ≤ c % W ∧ c % W < W) ∧ (0 ≤ c / W % H ∧ c / W % H < H) ∧ (0 ≤ c / (W * H) ∧ c / (W * H) < D) := by
 have hw := h.w1; have hh := h.h1; have hwh := h.wh; exact ⟨⟨Int.emod_nonneg _ (by omega), Int.emod_lt_of_pos _ (by omega)⟩, ⟨Int.emod_nonneg _ (by omega), Int.emod_lt_of_pos _ (by omega)⟩, ⟨Int.ediv_nonneg h0 (by omega), Int.ediv_lt_of_lt_mul (by omega) (by rw [Int.mul_comm]; exact h1)⟩⟩
theorem FloorOk.beside_f (h : FloorOk W H D K O) (c d : Int) : floor_beside.f W H D K O c d = some (besZ W H D c d) := by
 have hw2 := h.w2; have hh2 := h.h2; have hd2 := h.d2
 unfold floor_beside.f besZ
 rw [h.is_f]; simp only [Option.bind_some]
 by_cases hc : 0 ≤ c ∧ c < W * H * D
 ·rw [decide_eq_true hc, if_pos rfl]
  by_cases h1 : d < 0
  ·rw [if_pos h1, if_neg (by omega)]
  ·rw [if_neg h1]
   by_cases h2 : d ≥ 6
   ·rw [if_pos h2, if_neg (by omega)]
   ·rw [if_neg h2, if_pos (by omega), h.at_f hc.1 hc.2]; simp only [Option.bind_some]; obtain ⟨p1, p2, p3⟩ := h.place hc.1 hc.2; have q1 := sx_le d; have q2 := sy_le d; have q3 := sz_le d; rw [wrap_small (x := c % W + sx d) (by omega) (by omega), wrap_small (x := c / W % H + sy d) (by omega) (by omega), wrap_small (x := c / (W * H) + P.sz d) (by omega) (by omega)]; exact h.cell_f (by omega) (by omega) (by omega)
 ·rw [decide_eq_false hc, if_neg (by simp), if_neg (by omega)]
theorem FloorOk.bes_lt (h : FloorOk W H D K O) {c d : Int} (hn : 0 ≤ besZ W H D c d) : 0 ≤ c ∧ c < W * H * D ∧ 0 ≤ d ∧ d < 6 ∧ besZ W H D c d < W * H * D := by
 unfold besZ at hn ⊢
 by_cases hc : 0 ≤ c ∧ c < W * H * D ∧ 0 ≤ d ∧ d < 6
 ·rw [if_pos hc] at hn ⊢; refine ⟨hc.1, hc.2.1, hc.2.2.1, hc.2.2.2, ?_⟩
  unfold cellZ at hn ⊢
  generalize c % W + sx d = x at hn ⊢; generalize c / W % H + sy d = y at hn ⊢; generalize c / (W * H) + P.sz d = z at hn ⊢
  by_cases hp : x < 0 ∨ y < 0 ∨ z < 0 ∨ W ≤ x ∨ H ≤ y ∨ D ≤ z
  ·rw [if_pos hp] at hn; omega
  ·rw [if_neg hp]; exact (place_le (by omega) (by omega) (by omega) (by omega) (by omega) (by omega)).2.2.2
 ·rw [if_neg hc] at hn; omega
theorem cell_inj {W H x y z x' y' z' : Int} (h0 : 0 ≤ x) (h1 : x < W) (h0' : 0 ≤ x') (h1' : x' < W) (g0 : 0 ≤ y) (g1 : y < H) (g0' : 0 ≤ y') (g1' : y' < H) (e : (z * H + y) * W + x = (z' * H + y') * W + x') : x = x' ∧ y = y' ∧ z = z' := by
 have a1 : ((z * H + y) * W + x) % W = x := by rw [Int.add_comm, Int.add_mul_emod_self_right, Int.emod_eq_of_lt h0 h1]
 have a2 : ((z' * H + y') * W + x') % W = x' := by rw [Int.add_comm, Int.add_mul_emod_self_right, Int.emod_eq_of_lt h0' h1']
 have ex : x = x' := by rw [← a1, e, a2]
 subst ex
 have e2 : (z * H + y) * W = (z' * H + y') * W := by omega
 have e3 : z * H + y = z' * H + y' := Int.eq_of_mul_eq_mul_right (by omega) e2
 have b1 : (z * H + y) % H = y := by rw [Int.add_comm, Int.add_mul_emod_self_right, Int.emod_eq_of_lt g0 g1]
 have b2 : (z' * H + y') % H = y' := by rw [Int.add_comm, Int.add_mul_emod_self_right, Int.emod_eq_of_lt g0' g1']
 have ey : y = y' := by rw [← b1, e3, b2]
 subst ey
 have e4 : z * H = z' * H := by omega
 exact ⟨rfl, rfl, Int.eq_of_mul_eq_mul_right (by omega) e4⟩
theorem dir_inj {d d' : Int} (h0 : 0 ≤ d) (h1 : d < 6) (h0' : 0 ≤ d') (h1' : d' < 6) (ex : sx d = sx d') (ey : sy d = sy d') (ez : sz d = sz d') : d = d' := by
 have h : d = 0 ∨ d = 1 ∨ d = 2 ∨ d = 3 ∨ d = 4 ∨ d = 5 := by omega
 have h' : d' = 0 ∨ d' = 1 ∨ d' = 2 ∨ d' = 3 ∨ d' = 4 ∨ d' = 5 := by omega
 rcases h with rfl | rfl | rfl | rfl | rfl | rfl <;> rcases h' with rfl | rfl | rfl | rfl | rfl | rfl <;> first | rfl | (exfalso; revert ex ey ez; decide)
theorem bes_inj {W H D c d d' : Int} (hn : 0 ≤ besZ W H D c d) (e : besZ W H D c d = besZ W H D c d') : d = d' := by
 have hn' : 0 ≤ besZ W H D c d' := e ▸ hn
 unfold besZ at hn hn' e
 by_cases hc : 0 ≤ c ∧ c < W * H * D ∧ 0 ≤ d ∧ d < 6
 ·by_cases hc' : 0 ≤ c ∧ c < W * H * D ∧ 0 ≤ d' ∧ d' < 6
  ·rw [if_pos hc] at hn e; rw [if_pos hc'] at hn' e
   unfold cellZ at hn hn' e
   split at hn
   ·omega
   ·rename_i g
    split at hn'
    ·omega
    ·rename_i g'
     rw [if_neg g, if_neg g'] at e; obtain ⟨e1, e2, e3⟩ := cell_inj (W := W) (H := H) (by omega) (by omega) (by omega) (by omega) (by omega) (by omega) (by omega) (by omega) e; exact dir_inj hc.2.2.1 hc.2.2.2 hc'.2.2.1 hc'.2.2.2 (by omega) (by omega) (by omega)
  ·rw [if_neg hc'] at hn'; omega
 ·rw [if_neg hc] at hn; omega
def nx (W H D : Int) (K O : List Int) (c d : Int) : Int × Bool :=
 if besZ W H D c d < 0 then (0, false)
 else if rd K c = 0 ∨ rd K (besZ W H D c d) = 0 ∨ (Go.bits .and .i64 (shr .i64 (rd O c) d) 1 == 0) = true then (0, false)
 else if (d = 4 ∨ d = 5) ∧ (rd K c ≠ 6 ∨ rd K (besZ W H D c d) ≠ 6) then (0, false)
 else (besZ W H D c d, true)
theorem FloorOk.next_f (h : FloorOk W H D K O) (c d : Int) : floor_Next.f 1 W H D K O c d = some (nx W H D K O c d) := by
 unfold floor_Next.f nx
 rw [h.beside_f]; simp only [Option.bind_some]
 by_cases hb : besZ W H D c d < 0
 ·rw [if_pos hb, if_pos hb]; simp only [floor_Next.j0, if_true]
 ·rw [if_neg hb, if_neg hb]; obtain ⟨c0, c1, d0, d1, b1⟩ := h.bes_lt (c := c) (d := d) (by omega); have hk := h.kl; have ho := h.ol; rw [if_pos c0, if_pos (by omega)]
  by_cases k1 : rd K c = 0
  ·rw [if_pos k1, if_pos (by omega)]; simp only [floor_Next.j0, if_true]
  ·rw [if_neg k1, if_pos (by omega), if_pos (by omega)]
   by_cases k2 : rd K (besZ W H D c d) = 0
   ·rw [if_pos k2, if_pos (by omega)]; simp only [floor_Next.j0, if_true]
   ·rw [if_neg k2, if_pos (by omega), if_pos d0]; simp only [floor_Next.j0]
    by_cases k3 : (Go.bits .and .i64 (shr .i64 (rd O c) d) 1 == 0) = true
    ·rw [if_pos k3, if_pos (.inr (.inr k3))]
    ·have hno : ¬ (rd K c = 0 ∨ rd K (besZ W H D c d) = 0 ∨ (Go.bits .and .i64 (shr .i64 (rd O c) d) 1 == 0) = true) := by
      rintro (e | e | e)
      ·exact k1 e
      ·exact k2 e
      ·exact k3 e
     rw [if_neg k3, if_neg hno]
     by_cases e4 : d = 4
     ·rw [if_pos e4, if_pos c0, if_pos (by omega)]
      by_cases k4 : rd K c = 6
      ·rw [if_pos k4, if_pos (by omega), if_pos (by omega)]
       by_cases k5 : rd K (besZ W H D c d) = 6
       ·rw [if_pos k5, if_neg (by simp [k4, k5])]
       ·rw [if_neg k5, if_pos ⟨.inl e4, .inr k5⟩]
      ·rw [if_neg k4, if_pos ⟨.inl e4, .inl k4⟩]
     ·rw [if_neg e4]
      by_cases e5 : d = 5
      ·rw [if_pos e5, if_pos c0, if_pos (by omega)]
       by_cases k4 : rd K c = 6
       ·rw [if_pos k4, if_pos (by omega), if_pos (by omega)]
        by_cases k5 : rd K (besZ W H D c d) = 6
        ·rw [if_pos k5, if_neg (by simp [k4, k5])]
        ·rw [if_neg k5, if_pos ⟨.inr e5, .inr k5⟩]
       ·rw [if_neg k4, if_pos ⟨.inr e5, .inl k4⟩]
      ·rw [if_neg e5, if_neg (by simp [e4, e5])]
theorem nx_true {W H D : Int} {K O : List Int} {c d : Int} (h : (nx W H D K O c d).2 = true) : (nx W H D K O c d).1 = besZ W H D c d ∧ 0 ≤ besZ W H D c d := by
 unfold nx at h ⊢
 by_cases h1 : besZ W H D c d < 0
 ·rw [if_pos h1] at h; cases h
 ·rw [if_neg h1] at h ⊢
  split at h
  ·cases h
  ·rename_i h2
   rw [if_neg h2]
   split at h
   ·cases h
   ·rename_i h3
    rw [if_neg h3]; exact ⟨rfl, by omega⟩
end
end Go.Proofs.Ytogmjilaiopjmaa.P
end
section
namespace Go.Proofs.Ytogmjilaiopjmaa.P
open Go.RowKit Go.Proofs.YtogmjilaiopjmaaW.PrintWords Go.Proofs.YtogmjilaiopjmaaW.PrintLast Go.Proofs.YtogmjilaiopjmaaW.PrintMore
theorem less_f (a b : Int) : cmp_Less_int.f a b = some (decide (a < b)) := by
 unfold cmp_Less_int.f cmp_isNaN_int.f
 simp
theorem half_wrap {x y : Nat} (hx : x ≤ 1000000) (hy : y ≤ 1000000) : wrap64 ((IntKind.u64.wrap (wrap64 ((x : Int) + (y : Int)))) / 2) = (((x + y) / 2 : Nat) : Int) := by
 rw [wrap_small (x := (x : Int) + y) (by omega) (by omega)]
 have h : IntKind.u64.wrap ((x : Int) + (y : Int)) = (x : Int) + y := by
  simp [IntKind.wrap, IntKind.bits, IntKind.signed]
  omega
 rw [h, wrap_small (by omega) (by omega)]
 omega
theorem rd_nat (xs : List Int) (i : Nat) : rd xs (i : Int) = xs.getD i 0 := by unfold rd; rw [Int.toNat_natCast]
theorem bs_l0 (r : List Int) (a : Int) (hs : r.Pairwise (· < ·)) (hn : r.length ≤ 1000000) : ∀ (d k lo hi : Nat), lo + d = hi → hi ≤ r.length → d < k → (∀ j, j < lo → r.getD j 0 < a) → (∀ j, hi ≤ j → j < r.length → a ≤ r.getD j 0) →
  ∃ i : Nat, i ≤ r.length ∧ slices_BinarySearch_int_int.l0 k r a (r.length : Int) (lo : Int) (hi : Int) = some ((i : Int), decide (i < r.length ∧ r.getD i 0 = a)) ∧ (∀ j, j < i → r.getD j 0 < a) ∧ (∀ j, i ≤ j → j < r.length → a ≤ r.getD j 0) := by
 intro d
 induction d using Nat.strongRecOn with
 | _ d ih =>
  intro k lo hi h1 h2 h3 hl hh; obtain ⟨k, rfl⟩ : ∃ m, k = m + 1 := ⟨k - 1, by omega⟩; simp only [slices_BinarySearch_int_int.l0]
  by_cases hd : lo < hi
  ·rw [if_pos (by omega), half_wrap (by omega) (by omega)]; rw [if_pos (by omega), if_pos (by omega), less_f]; simp only [Option.bind_some]; have hm : rd r (((lo + hi) / 2 : Nat) : Int) = r.getD ((lo + hi) / 2) 0 := rd_nat _ _; rw [hm]
   by_cases hlt : r.getD ((lo + hi) / 2) 0 < a
   ·rw [if_pos (decide_eq_true hlt)]
    have e : wrap64 ((((lo + hi) / 2 : Nat) : Int) + 1) = (((lo + hi) / 2 + 1 : Nat) : Int) := by rw [wrap_small (by omega) (by omega)]; omega
    rw [e]; refine ih (hi - ((lo + hi) / 2 + 1)) (by omega) k ((lo + hi) / 2 + 1) hi (by omega) h2 (by omega) (fun j hj => ?_) hh
    by_cases hj2 : j < lo
    ·exact hl j hj2
    ·rcases Nat.lt_or_ge j ((lo + hi) / 2) with hj3 | hj3
     ·have h4 := List.pairwise_iff_getElem.1 hs j ((lo + hi) / 2) (by omega) (by omega) hj3; rw [List.getD_eq_getElem?_getD, List.getElem?_eq_getElem (by omega)] at hlt ⊢; simp only [Option.getD_some] at hlt ⊢
      omega
     ·rw [show j = (lo + hi) / 2 by omega]; exact hlt
   ·rw [if_neg (fun h => hlt (of_decide_eq_true h))]; refine ih ((lo + hi) / 2 - lo) (by omega) k lo ((lo + hi) / 2) (by omega) (by omega) (by omega) hl (fun j hj hj2 => ?_)
    rcases Nat.lt_or_ge ((lo + hi) / 2) j with hj3 | hj3
    ·have h4 := List.pairwise_iff_getElem.1 hs ((lo + hi) / 2) j (by omega) (by omega) hj3; rw [List.getD_eq_getElem?_getD, List.getElem?_eq_getElem (by omega)] at hlt ⊢; simp only [Option.getD_some] at hlt ⊢
     omega
    ·rw [show j = (lo + hi) / 2 by omega]; exact Int.not_lt.1 hlt
  ·obtain rfl : lo = hi := by omega
   rw [if_neg (by omega)]; refine ⟨lo, h2, ?_, hl, hh⟩
   by_cases hlen : lo < r.length
   ·rw [if_pos (by omega), if_pos (by omega), if_pos (by omega)]; have hm : rd r (lo : Int) = r.getD lo 0 := rd_nat _ _; rw [hm]
    by_cases he : r.getD lo 0 = a
    ·rw [if_pos he, decide_eq_true ⟨hlen, he⟩]
    ·rw [if_neg he, decide_eq_false (fun h => he h.2)]
     unfold slices_isNaN_int.f
     simp
   ·rw [if_neg (by omega), decide_eq_false (fun h => hlen h.1)]
def bsR (r : List Int) (a : Int) : Int × Bool := (slices_BinarySearch_int_int.f (r.length + 1) r a).getD (0, false)
theorem bs_f {r : List Int} (a : Int) (hs : r.Pairwise (· < ·)) (hn : r.length ≤ 1000000) : slices_BinarySearch_int_int.f (r.length + 1) r a = some (bsR r a) ∧ ∃ i : Nat, bsR r a = ((i : Int), decide (i < r.length ∧ r.getD i 0 = a)) ∧ ∀ j, j < r.length → r.getD j 0 = a → j = i := by
 obtain ⟨i, h1, h2, h3, h4⟩ := bs_l0 r a hs hn r.length (r.length + 1) 0 r.length (by omega) (Nat.le_refl _) (by omega) (fun j hj => by omega) (fun j h1 h2 => by omega); have h5 : slices_BinarySearch_int_int.f (r.length + 1) r a = some ((i : Int), decide (i < r.length ∧ r.getD i 0 = a)) := h2
 unfold bsR
 rw [h5]; refine ⟨rfl, i, rfl, fun j hj he => ?_⟩
 rcases Nat.lt_trichotomy j i with h | h | h
 ·have := h3 j h; omega
 ·exact h
 ·have h6 := h4 i (Nat.le_refl _) (by omega); have h7 := List.pairwise_iff_getElem.1 hs i j (by omega) (by omega) h; rw [List.getD_eq_getElem?_getD, List.getElem?_eq_getElem (by omega)] at h6 he; simp only [Option.getD_some] at h6 he
  omega
theorem bs_true {r : List Int} {a : Int} (hs : r.Pairwise (· < ·)) (hn : r.length ≤ 1000000) (h : (bsR r a).2 = true) : ∃ i : Nat, (bsR r a).1 = i ∧ i < r.length ∧ r.getD i 0 = a := by
 obtain ⟨_, i, e, _⟩ := bs_f a hs hn; rw [e] at h ⊢; exact ⟨i, rfl, of_decide_eq_true h⟩
theorem bs_of {r : List Int} {a : Int} (hs : r.Pairwise (· < ·)) (hn : r.length ≤ 1000000) {k : Nat} (hk : k < r.length) (h : r.getD k 0 = a) : bsR r a = ((k : Int), true) := by
 obtain ⟨_, i, e, hu⟩ := bs_f a hs hn; obtain rfl := hu k hk h; rw [e, decide_eq_true ⟨hk, h⟩]
section
variable (W H D : Int) (K O : List Int) (r : List Int) (l : List Bool) (full : Bool)
def shiftD (i d : Nat) : List S51 :=
 if (nx W H D K O (r.getD i 0) d).2 = true ∧ (bsR r (nx W H D K O (r.getD i 0) d).1).2 = true ∧ l.getD (bsR r (nx W H D K O (r.getD i 0) d).1).1.toNat false ≠ full then [⟨(i : Int), (bsR r (nx W H D K O (r.getD i 0) d).1).1⟩] else []
def shiftsI (i : Nat) : Nat → List S51
 | 0 => []
 | d + 1 => shiftsI i d ++ shiftD W H D K O r l full i d
def shiftsR : Nat → List S51
 | 0 => []
 | i + 1 => shiftsR i ++ (if l.getD i false = full then shiftsI W H D K O r l full i 6 else [])
def gets (a b : Int) : Bool := (List.range 6).any fun d => decide (nx W H D K O a d = (b, true))
def shiftsN : List S51 := (List.range r.length).flatMap fun i => (List.range r.length).filterMap fun k =>
 if l.getD i false = full ∧ l.getD k false ≠ full ∧ gets W H D K O (r.getD i 0) (r.getD k 0) = true then some ⟨(i : Int), (k : Int)⟩ else none
end
end Go.Proofs.Ytogmjilaiopjmaa.P
end
section
namespace Go.Proofs.Ytogmjilaiopjmaa.P
open Go.RowKit Go.Proofs.YtogmjilaiopjmaaW.PrintWords Go.Proofs.YtogmjilaiopjmaaW.PrintLast Go.Proofs.YtogmjilaiopjmaaW.PrintMore
def ltS (a b : S51) : Prop := a.f0 < b.f0 ∨ a.f0 = b.f0 ∧ a.f1 < b.f1
theorem ltS_irrefl (a : S51) : ¬ ltS a a := by unfold ltS; omega
theorem ltS_trans {a b c : S51} (h : ltS a b) (k : ltS b c) : ltS a c := by unfold ltS at *; omega
theorem S51_ext {a b : S51} (h0 : a.f0 = b.f0) (h1 : a.f1 = b.f1) : a = b := by cases a; cases b; simp_all
theorem sorted_unique : ∀ (l1 l2 : List S51), l1.Pairwise ltS → l2.Pairwise ltS → (∀ s, s ∈ l1 ↔ s ∈ l2) → l1 = l2
 | [], [], _, _, _ => rfl
 | [], b :: l2, _, _, h => by have := (h b).2 (by simp); simp at this
 | a :: l1, [], _, _, h => by have := (h a).1 (by simp); simp at this
 | a :: l1, b :: l2, h1, h2, h => by
  obtain ⟨ha, h1'⟩ := List.pairwise_cons.1 h1; obtain ⟨hb, h2'⟩ := List.pairwise_cons.1 h2
  have e : a = b := by
   rcases List.mem_cons.1 ((h a).1 (by simp)) with e | e
   ·exact e
   ·rcases List.mem_cons.1 ((h b).2 (by simp)) with e' | e'
    ·exact e'.symm
    ·exact absurd (ltS_trans (ha b e') (hb a e)) (ltS_irrefl a)
  subst e; refine congrArg (a :: ·) (sorted_unique l1 l2 h1' h2' fun s => ⟨fun hs => ?_, fun hs => ?_⟩)
  ·rcases List.mem_cons.1 ((h s).1 (by simp [hs])) with e | e
   ·subst e; exact absurd (ha s hs) (ltS_irrefl s)
   ·exact e
  ·rcases List.mem_cons.1 ((h s).2 (by simp [hs])) with e | e
   ·subst e; exact absurd (hb s hs) (ltS_irrefl s)
   ·exact e
theorem strict_of {l : List S51} (h : l.Pairwise fun a b => ¬ ltS b a) (hn : l.Nodup) : l.Pairwise ltS := by
 refine (h.and hn).imp fun {a b} hab => ?_; obtain ⟨h1, h2⟩ := hab; have h3 : ¬ (a.f0 = b.f0 ∧ a.f1 = b.f1) := fun e => h2 (S51_ext e.1 e.2)
 unfold ltS at *
 omega
section
variable {W H D : Int} {K O : List Int} {r : List Int} {l : List Bool} {full : Bool}
theorem mem_shiftD (hs : r.Pairwise (· < ·)) (hn : r.length ≤ 1000000) {i d : Nat} {s : S51} : s ∈ shiftD W H D K O r l full i d ↔ ∃ k, k < r.length ∧ nx W H D K O (r.getD i 0) d = (r.getD k 0, true) ∧ l.getD k false ≠ full ∧ s = ⟨(i : Int), (k : Int)⟩ := by
 unfold shiftD
 constructor
 ·intro h
  split at h
  ·rename_i hc
   obtain ⟨h1, h2, h3⟩ := hc; obtain ⟨k, e1, hk, e2⟩ := bs_true hs hn h2; rw [e1, Int.toNat_natCast] at h3; refine ⟨k, hk, ?_, h3, ?_⟩
   ·rw [e2, ← h1]
   ·rw [List.mem_singleton] at h; rw [h, e1]
  ·simp at h
 ·rintro ⟨k, hk, e, h3, rfl⟩; have hb := bs_of hs hn hk (rfl : r.getD k 0 = r.getD k 0); rw [e]; dsimp only; rw [hb]; dsimp only; rw [Int.toNat_natCast, if_pos ⟨rfl, rfl, h3⟩]
  simp
theorem mem_shiftsI (hs : r.Pairwise (· < ·)) (hn : r.length ≤ 1000000) {i : Nat} {s : S51} : ∀ n, s ∈ shiftsI W H D K O r l full i n ↔ ∃ d, d < n ∧ s ∈ shiftD W H D K O r l full i d
 | 0 => by simp [shiftsI]
 | n + 1 => by
  rw [shiftsI, List.mem_append, mem_shiftsI hs hn n]
  constructor
  ·rintro (⟨d, hd, h⟩ | h)
   ·exact ⟨d, by omega, h⟩
   ·exact ⟨n, by omega, h⟩
  ·rintro ⟨d, hd, h⟩
   by_cases e : d = n
   ·subst e; exact .inr h
   ·exact .inl ⟨d, by omega, h⟩
theorem mem_shiftsR (hs : r.Pairwise (· < ·)) (hn : r.length ≤ 1000000) {s : S51} : ∀ n, s ∈ shiftsR W H D K O r l full n ↔ ∃ i, i < n ∧ l.getD i false = full ∧ s ∈ shiftsI W H D K O r l full i 6
 | 0 => by simp [shiftsR]
 | n + 1 => by
  rw [shiftsR, List.mem_append, mem_shiftsR hs hn n]
  constructor
  ·rintro (⟨i, hi, h1, h2⟩ | h)
   ·exact ⟨i, by omega, h1, h2⟩
   ·split at h
    ·rename_i hf; exact ⟨n, by omega, hf, h⟩
    ·simp at h
  ·rintro ⟨i, hi, h1, h2⟩
   by_cases e : i = n
   ·subst e; rw [if_pos h1]; exact .inr h2
   ·exact .inl ⟨i, by omega, h1, h2⟩
theorem nodup_shiftsI (hf : FloorOk W H D K O) (hs : r.Pairwise (· < ·)) (hn : r.length ≤ 1000000) (i : Nat) : ∀ n, n ≤ 6 → (shiftsI W H D K O r l full i n).Nodup
 | 0, _ => by simp [shiftsI]
 | n + 1, hn6 => by
  rw [shiftsI, List.nodup_append]; refine ⟨nodup_shiftsI hf hs hn i n (by omega), ?_, ?_⟩
  ·unfold shiftD; split <;> simp
  ·intro a ha b hb e; subst e; obtain ⟨d, hd, h1⟩ := (mem_shiftsI hs hn n).1 ha; obtain ⟨k, _, e1, _, s1⟩ := (mem_shiftD hs hn).1 h1; obtain ⟨k', _, e2, _, s2⟩ := (mem_shiftD hs hn).1 hb
   have ek : k = k' := by rw [s1] at s2; injection s2 with _ e; omega
   subst ek; have t1 := nx_true (W := W) (H := H) (D := D) (K := K) (O := O) (c := r.getD i 0) (d := (d : Int)) (by rw [e1]); have t2 := nx_true (W := W) (H := H) (D := D) (K := K) (O := O) (c := r.getD i 0) (d := (n : Int)) (by rw [e2]); rw [e1] at t1; rw [e2] at t2; have := bes_inj t1.2 (t1.1.symm.trans t2.1)
   omega
theorem nodup_shiftsR (hf : FloorOk W H D K O) (hs : r.Pairwise (· < ·)) (hn : r.length ≤ 1000000) : ∀ n, (shiftsR W H D K O r l full n).Nodup
 | 0 => by simp [shiftsR]
 | n + 1 => by
  rw [shiftsR, List.nodup_append]; refine ⟨nodup_shiftsR hf hs hn n, ?_, ?_⟩
  ·split
   ·exact nodup_shiftsI hf hs hn n 6 (Nat.le_refl _)
   ·simp
  ·intro a ha b hb e; subst e; obtain ⟨i, hi, _, h1⟩ := (mem_shiftsR hs hn n).1 ha; obtain ⟨d, _, h2⟩ := (mem_shiftsI hs hn 6).1 h1; obtain ⟨k, _, _, _, s1⟩ := (mem_shiftD hs hn).1 h2
   split at hb
   ·obtain ⟨d', _, h3⟩ := (mem_shiftsI hs hn 6).1 hb; obtain ⟨k', _, _, _, s2⟩ := (mem_shiftD hs hn).1 h3; rw [s1] at s2
    injection s2 with e _
    omega
   ·simp at hb
theorem gets_iff {a b : Int} : gets W H D K O a b = true ↔ ∃ d : Nat, d < 6 ∧ nx W H D K O a d = (b, true) := by
 unfold gets
 rw [List.any_eq_true]
 constructor
 ·rintro ⟨d, hd, h⟩; exact ⟨d, List.mem_range.1 hd, of_decide_eq_true h⟩
 ·rintro ⟨d, hd, h⟩; exact ⟨d, List.mem_range.2 hd, decide_eq_true h⟩
theorem mem_shiftsN {s : S51} : s ∈ shiftsN W H D K O r l full ↔ ∃ i k, i < r.length ∧ k < r.length ∧ l.getD i false = full ∧ l.getD k false ≠ full ∧ gets W H D K O (r.getD i 0) (r.getD k 0) = true ∧ s = ⟨(i : Int), (k : Int)⟩ := by
 unfold shiftsN
 rw [List.mem_flatMap]
 constructor
 ·rintro ⟨i, hi, h⟩; rw [List.mem_filterMap] at h; obtain ⟨k, hk, h⟩ := h
  split at h
  ·rename_i hc
   injection h with h
   exact ⟨i, k, List.mem_range.1 hi, List.mem_range.1 hk, hc.1, hc.2.1, hc.2.2, h.symm⟩
  ·cases h
 ·rintro ⟨i, k, hi, hk, h1, h2, h3, rfl⟩; refine ⟨i, List.mem_range.2 hi, ?_⟩; rw [List.mem_filterMap]; exact ⟨k, List.mem_range.2 hk, by rw [if_pos ⟨h1, h2, h3⟩]⟩
theorem mem_shifts (hs : r.Pairwise (· < ·)) (hn : r.length ≤ 1000000) {s : S51} : s ∈ shiftsR W H D K O r l full r.length ↔ s ∈ shiftsN W H D K O r l full := by
 rw [mem_shiftsR hs hn, mem_shiftsN]
 constructor
 ·rintro ⟨i, hi, h1, h⟩; obtain ⟨d, hd, h⟩ := (mem_shiftsI hs hn 6).1 h; obtain ⟨k, hk, e, h2, h3⟩ := (mem_shiftD hs hn).1 h; exact ⟨i, k, hi, hk, h1, h2, gets_iff.2 ⟨d, hd, e⟩, h3⟩
 ·rintro ⟨i, k, hi, hk, h1, h2, h3, rfl⟩; obtain ⟨d, hd, e⟩ := gets_iff.1 h3; exact ⟨i, hi, h1, (mem_shiftsI hs hn 6).2 ⟨d, hd, (mem_shiftD hs hn).2 ⟨k, hk, e, h2, rfl⟩⟩⟩
theorem sorted_shiftsN : (shiftsN W H D K O r l full).Pairwise ltS := by
 unfold shiftsN
 rw [List.pairwise_flatMap]
 constructor
 ·intro i _; rw [List.pairwise_filterMap]; refine List.pairwise_lt_range.imp fun {a b} hab s hs t ht => ?_
  split at hs
  ·split at ht
   ·injection hs with hs
    injection ht with ht
    subst hs ht; exact .inr ⟨rfl, by dsimp only; omega⟩
   ·cases ht
  ·cases hs
 ·refine List.pairwise_lt_range.imp fun {a b} hab s hs t ht => ?_; rw [List.mem_filterMap] at hs ht; obtain ⟨k, _, hs⟩ := hs; obtain ⟨k', _, ht⟩ := ht
  split at hs
  ·split at ht
   ·injection hs with hs
    injection ht with ht
    subst hs ht; exact .inl (by dsimp only; omega)
   ·cases ht
  ·cases hs
theorem shifts_sorted (hf : FloorOk W H D K O) (hs : r.Pairwise (· < ·)) (hn : r.length ≤ 1000000) {q : List S51} (hp : q.Perm (shiftsR W H D K O r l full r.length)) (ho : q.Pairwise fun a b => ¬ ltS b a) : q = shiftsN W H D K O r l full ∧ q.Pairwise ltS := by
 have hnd : q.Nodup := hp.nodup_iff.2 (nodup_shiftsR hf hs hn r.length); have hst := strict_of ho hnd; exact ⟨sorted_unique _ _ hst sorted_shiftsN fun s => (hp.mem_iff).trans (mem_shifts hs hn), hst⟩
theorem shiftsI_len (i : Nat) : ∀ n, (shiftsI W H D K O r l full i n).length ≤ n
 | 0 => by simp [shiftsI]
 | n + 1 => by
  rw [shiftsI, List.length_append]; have := shiftsI_len i n
  unfold shiftD
  split <;> simp <;> omega
theorem shiftsR_len : ∀ n, (shiftsR W H D K O r l full n).length ≤ 6 * n
 | 0 => by simp [shiftsR]
 | n + 1 => by
  rw [shiftsR, List.length_append]; have h1 := shiftsR_len n; have h2 := shiftsI_len (W := W) (H := H) (D := D) (K := K) (O := O) (r := r) (l := l) (full := full) n 6
  split <;> simp <;> omega
end
end Go.Proofs.Ytogmjilaiopjmaa.P
end
section
namespace Go.Proofs.Ytogmjilaiopjmaa.P
open Go.RowKit Go.Proofs.YtogmjilaiopjmaaW.PrintWords Go.Proofs.YtogmjilaiopjmaaW.PrintLast Go.Proofs.YtogmjilaiopjmaaW.PrintMore
attribute [local go_sem] max2_int min2_int max_two min_two max_three min_three max_four min_four
theorem eqA51 (d : Nat) (w : World) (x0 y0 : Int) (x1 y1 : Int) :
  (Op.equalIn (d + 2) 51 (.agg #[.int .i64 x0, .int .i64 x1]) (.agg #[.int .i64 y0, .int .i64 y1])).run Try.prog w = .ok (x0 == y0 && (x1 == y1)) w := by
 refine eqA_of Try.underlying51 (by kernel_rfl) ?_; refine eqf_cons (by rfl) (by go_simp; rfl) (by go_simp; rfl) (by go_simp) ?_; exact eqf_last (by rfl) (by go_simp; rfl) (by go_simp; rfl) (by go_simp)
end Go.Proofs.Ytogmjilaiopjmaa.P
end
