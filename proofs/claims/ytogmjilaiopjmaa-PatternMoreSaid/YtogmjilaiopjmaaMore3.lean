/- Lemmas for the row of this claim: contracts of the functions that it reaches, and plain laws about numbers and lists. -/
import Derived.Test.YtogmjilaiopjmaaMore2
import Derived.Test.YtogmjilaiopjmaaProg
set_option linter.unusedVariables false
set_option linter.unusedSimpArgs false
section
namespace Go.Proofs.Ytogmjilaiopjmaa.P
open Go.RowKit Go.Proofs.YtogmjilaiopjmaaW.PrintWords Go.Proofs.YtogmjilaiopjmaaW.PrintLast Go.Proofs.YtogmjilaiopjmaaW.PrintMore
attribute [local go_sem] max2_int min2_int max_two min_two max_three min_three max_four min_four
def errW : Option Int → Value
 | none => .nilIface
 | some c => .iface 0 (.int .i64 c)
theorem errW_none : errW none = .nilIface := rfl
theorem errW_some (c : Int) : errW (some c) = .iface 0 (.int .i64 c) := rfl
theorem info3 : (Try.prog.info? 3).map (fun i => (i.zero, i.size, i.bytes)) = some (some (.int .i64 0), 1, 8) := by kernel_rfl
theorem info4 : (Try.prog.info? 4).map (fun i => (i.zero, i.size, i.bytes)) = some (some (.bool false), 1, 1) := by kernel_rfl
theorem info51 : (Try.prog.info? 51).map (fun i => (i.zero, i.size, i.bytes)) = some (some (.agg #[(.int .i64 0), (.int .i64 0)]), 2, 16) := by kernel_rfl
structure S51 where
 f0 : Int
 f1 : Int
def z51 : S51 := ⟨(0 : Int), (0 : Int)⟩
def k51 : Kd S51 := Kd.iso (Kd.pair (Kd.int .i64) (Kd.int .i64)) (fun x : S51 => (x.f0, x.f1))
theorem k51_open {w : World} {x : S51} {cs : List Value} (h : k51.K w x cs) : cs = [.int .i64 x.f0, .int .i64 x.f1] := by
 obtain ⟨_, _, rfl, rfl, rfl⟩ := h; exact rfl
theorem k51_openM {w : World} {base : Nat} {ok : Nat → Prop} {x : S51} {cs : List Value} (h : k51.M w base ok x cs) : cs = [.int .i64 x.f0, .int .i64 x.f1] := by
 obtain ⟨_, _, rfl, rfl, rfl⟩ := h; exact rfl
theorem k51_mkM (w : World) (base : Nat) (ok : Nat → Prop) (x : S51)  : k51.M w base ok x [.int .i64 x.f0, .int .i64 x.f1] := ⟨[.int .i64 x.f0], [.int .i64 x.f1], rfl, rfl, rfl⟩
def rd_T51 (xs : List S51) (i : Int) : S51 := xs.getD i.toNat z51
theorem at_T51 {w : World} {A : Option Addr} {n : Nat} {xs : List S51} (h : Kd.C k51 w A n xs) (i : Int) (h0 : 0 ≤ i) (h1 : i < n) : ∃ ad , A = some ad ∧ w.cell? (ad.add (i.toNat * 2)) = some (.int .i64 (rd_T51 xs i).f0) ∧ w.cell? ⟨(ad.add (i.toNat * 2)).block, (ad.add (i.toNat * 2)).off + 1, none⟩ = some (.int .i64 (rd_T51 xs i).f1) := by
 obtain ⟨ad, c, e, _, hK, hc0⟩ := Kd.C_get h z51 i h0 h1; have hc : ∀ j u, c[j]? = some u → w.cell? (ad.add (i.toNat * 2 + j)) = some u := hc0; obtain rfl := k51_open hK; exact ⟨ad, e, hc 0 _ rfl, by rw [← add_field _ _ 1 (by omega)]; exact hc 1 _ rfl⟩
end Go.Proofs.Ytogmjilaiopjmaa.P
end
section
namespace Go.Proofs.Ytogmjilaiopjmaa.P
open Go.RowKit Go.Proofs.YtogmjilaiopjmaaW.PrintWords Go.Proofs.YtogmjilaiopjmaaW.PrintLast Go.Proofs.YtogmjilaiopjmaaW.PrintMore
theorem bk2 {w : World} {g : Nat} {t : TypeId} {a0 a1 : Value} (h : w.heap[g]? = some (.cells #[a0, a1] t (0, 0))) : w.cell? ⟨g, 0, none⟩ = some a0 ∧ w.cell? ⟨g, 1, none⟩ = some a1 ∧ w.frozen? ⟨g, 0, none⟩ = false ∧ w.frozen? ⟨g, 1, none⟩ = false :=
 ⟨(blk_cell h 0).trans rfl, (blk_cell h 1).trans rfl, blk_frozen h 0, blk_frozen h 1⟩
theorem bk5 {w : World} {g : Nat} {t : TypeId} {a0 a1 a2 a3 a4 : Value} (h : w.heap[g]? = some (.cells #[a0, a1, a2, a3, a4] t (0, 0))) : w.cell? ⟨g, 0, none⟩ = some a0 ∧ w.cell? ⟨g, 1, none⟩ = some a1 ∧ w.cell? ⟨g, 2, none⟩ = some a2 ∧ w.cell? ⟨g, 3, none⟩ = some a3 ∧ w.cell? ⟨g, 4, none⟩ = some a4 ∧ w.frozen? ⟨g, 0, none⟩ = false ∧ w.frozen? ⟨g, 1, none⟩ = false ∧ w.frozen? ⟨g, 2, none⟩ = false ∧ w.frozen? ⟨g, 3, none⟩ = false ∧ w.frozen? ⟨g, 4, none⟩ = false :=
 ⟨(blk_cell h 0).trans rfl, (blk_cell h 1).trans rfl, (blk_cell h 2).trans rfl, (blk_cell h 3).trans rfl, (blk_cell h 4).trans rfl, blk_frozen h 0, blk_frozen h 1, blk_frozen h 2, blk_frozen h 3, blk_frozen h 4⟩
end Go.Proofs.Ytogmjilaiopjmaa.P
end
section
namespace Go.Proofs.Ytogmjilaiopjmaa.P
open Go.RowKit Go.Proofs.YtogmjilaiopjmaaW.PrintWords Go.Proofs.YtogmjilaiopjmaaW.PrintLast Go.Proofs.YtogmjilaiopjmaaW.PrintMore
attribute [local go_sem] max2_int min2_int max_two min_two max_three min_three max_four min_four
def taquinref07_Few.f (a0_0 : Int) (a0_1 : Int) (a0_2 : Int) (l0_3 : List Int) (l0_4 : List Int) (a1 : Int) : Option (Bool) := if (l0_3.length : Int) ≤ a1 then (some (decide ((l0_4.length : Int) ≤ a1))) else (some false)
set_option maxHeartbeats 8000000 in
set_option maxRecDepth 100000 in
theorem taquinref07_Few.calls (a0_0 : Int) (a0_1 : Int) (a0_2 : Int) (A0_3 : Option Addr) (c0_3 : Nat) (l0_3 : List Int) (A0_4 : Option Addr) (c0_4 : Nat) (l0_4 : List Int) (a1 : Int) (r : Bool) (w : World) (hr0_3 : Kd.C (Kd.int .i64) w A0_3 l0_3.length l0_3) (hc0_3 : l0_3.length ≤ c0_3) (hr0_4 : Kd.C (Kd.int .i64) w A0_4 l0_4.length l0_4) (hc0_4 : l0_4.length ≤ c0_4) (h : taquinref07_Few.f a0_0 a0_1 a0_2 l0_3 l0_4 a1 = some r) :
  Calls Try.prog 24 #[.agg #[.int .i64 a0_0, .int .i64 a0_1, .int .i64 a0_2, .slice A0_3 l0_3.length c0_3, .slice A0_4 l0_4.length c0_4], .int .i64 a1] w fun e w' => e = .returned (.bool r) ∧ Below w.heap.size w w' := by
 have hu24 := Try.underlying24; have HR0_3 := ak hr0_3; have HC0_3 := ak hc0_3; clear hr0_3 hc0_3; have HR0_4 := ak hr0_4; have HC0_4 := ak hc0_4; clear hr0_4 hc0_4; have HB := ak (Below.refl w.heap.size w); have H : (if (l0_3.length : Int) ≤ a1 then (some (decide ((l0_4.length : Int) ≤ a1))) else (some false)) = some r := h; clear h
 by_cases c3 : (l0_3.length : Int) ≤ a1
 ·rw [if_pos c3] at H; have c3b0 : decide ((l0_3.length : Int) ≤ a1) = true := decide_eq_true c3; clear c3; obtain rfl := Option.some.inj H
  go_enter Try.func24, Try.ntmps24
  go_wp2_with (first | ((with_reducible refine gate_dst (N := 2) rfl ?_); (try (refine gate_guard (by rfl) ?_; dsimp only)); refine box_event ?hg (N := 2) ?hd (cs := #[.int .i64 a0_0, .int .i64 a0_1, .int .i64 a0_2, .slice A0_3 l0_3.length c0_3, .slice A0_4 l0_4.length c0_4]) (t := 24) ?hr ?_; (case hd => rfl); (case hg => rfl); (case hr => first | (go_simp; done) | (go_simp; rfl)); intro gb201 hg w4 hbox hb; have BK201 := ak (hbox); have GW201 := gw_ hg HB.1.size; have GE201 := gw_ hg HB.1.size; replace HB := ak (below_step HB.1 hb); clear hb hbox hg; obtain ⟨hcz5_0, hcz5_1, hcz5_2, hcz5_3, hcz5_4, hfz5_0, hfz5_1, hfz5_2, hfz5_3, hfz5_4⟩ := bk5 BK201.1))
  go_ret
  exact ⟨er_, hq1_ HB.1 GE201.1⟩
 ·rw [if_neg c3] at H; have c3b0 : decide ((l0_3.length : Int) ≤ a1) = false := decide_eq_false c3; clear c3; obtain rfl := Option.some.inj H
  go_enter Try.func24, Try.ntmps24
  go_wp2_with (first | ((with_reducible refine gate_dst (N := 2) rfl ?_); (try (refine gate_guard (by rfl) ?_; dsimp only)); refine box_event ?hg (N := 2) ?hd (cs := #[.int .i64 a0_0, .int .i64 a0_1, .int .i64 a0_2, .slice A0_3 l0_3.length c0_3, .slice A0_4 l0_4.length c0_4]) (t := 24) ?hr ?_; (case hd => rfl); (case hg => rfl); (case hr => first | (go_simp; done) | (go_simp; rfl)); intro gb201 hg w6 hbox hb; have BK201 := ak (hbox); have GW201 := gw_ hg HB.1.size; have GE201 := gw_ hg HB.1.size; replace HB := ak (below_step HB.1 hb); clear hb hbox hg; obtain ⟨hcz7_0, hcz7_1, hcz7_2, hcz7_3, hcz7_4, hfz7_0, hfz7_1, hfz7_2, hfz7_3, hfz7_4⟩ := bk5 BK201.1))
  go_ret
  exact ⟨er_, hq1_ HB.1 GE201.1⟩
mutual
def taquinref07_Right.j0 : Nat → Bool → Int → Int → Int → List Int → List Int → Option (Bool)
 | 0, _, _, _, _, _, _ => none
 | k + 1, x32, x203000, x203001, x203002, x203003, x203004 => if x32 = true then (some false) else (if (wrap64 ((wrap64 (x203000 * x203001)) * x203002)) > 4096 then (taquinref07_Right.j1 k (wrap64 ((wrap64 (x203000 * x203001)) * x203002)) true x203000 x203001 x203002 x203003 x203004) else (if (x203003.length : Int) = (wrap64 ((wrap64 (x203000 * x203001)) * x203002)) then (taquinref07_Right.j1 k (wrap64 ((wrap64 (x203000 * x203001)) * x203002)) ((x203004.length : Int) != (wrap64 ((wrap64 (x203000 * x203001)) * x203002))) x203000 x203001 x203002 x203003 x203004) else (taquinref07_Right.j1 k (wrap64 ((wrap64 (x203000 * x203001)) * x203002)) true x203000 x203001 x203002 x203003 x203004)))
def taquinref07_Right.j1 : Nat → Int → Bool → Int → Int → Int → List Int → List Int → Option (Bool)
 | 0, _, _, _, _, _, _, _ => none
 | k + 1, x3, x56, x203000, x203001, x203002, x203003, x203004 => if x56 = true then (some false) else (taquinref07_Right.l0 k x3 0 x203000 x203001 x203002 x203003 x203004)
def taquinref07_Right.l0 : Nat → Int → Int → Int → Int → Int → List Int → List Int → Option (Bool)
 | 0, _, _, _, _, _, _, _ => none
 | k + 1, x3, x4, x203000, x203001, x203002, x203003, x203004 => if x4 < x3 then (if 0 ≤ x4 then (if x4 < (x203003.length : Int) then (if (rd x203003 x4) < 0 then (some false) else (if (rd x203003 x4) ≥ 7 then (some false) else (if x4 < (x203004.length : Int) then (if (rd x203004 x4) < 0 then (some false) else (if (rd x203004 x4) > 63 then (some false) else (taquinref07_Right.l0 k x3 (wrap64 (x4 + 1)) x203000 x203001 x203002 x203003 x203004))) else (none)))) else (none)) else (none)) else (some true)
end
def taquinref07_Right.f (k : Nat) (a0_0 : Int) (a0_1 : Int) (a0_2 : Int) (l0_3 : List Int) (l0_4 : List Int) : Option (Bool) := if a0_0 < 1 then (taquinref07_Right.j0 k true a0_0 a0_1 a0_2 l0_3 l0_4) else (if a0_1 < 1 then (taquinref07_Right.j0 k true a0_0 a0_1 a0_2 l0_3 l0_4) else (if a0_2 < 1 then (taquinref07_Right.j0 k true a0_0 a0_1 a0_2 l0_3 l0_4) else (if a0_2 > 4 then (taquinref07_Right.j0 k true a0_0 a0_1 a0_2 l0_3 l0_4) else (if a0_0 > 4096 then (taquinref07_Right.j0 k true a0_0 a0_1 a0_2 l0_3 l0_4) else (taquinref07_Right.j0 k (decide (a0_1 > 4096)) a0_0 a0_1 a0_2 l0_3 l0_4)))))
def taquinref08_Right.l0 : Nat → List Int → Int → Option (Bool)
 | 0, _, _ => none
 | k + 1, x0, x3 => if x3 < (x0.length : Int) then (if 0 ≤ x3 then (if (rd x0 x3) < 0 then (some false) else (if (rd x0 x3) ≥ 4096 then (some false) else (if x3 > 0 then (if 0 ≤ (mx (wrap64 (x3 - 1)) 0) then (if (mx (wrap64 (x3 - 1)) 0) < (x0.length : Int) then (if (rd x0 (mx (wrap64 (x3 - 1)) 0)) ≥ (rd x0 x3) then (some false) else (taquinref08_Right.l0 k x0 (wrap64 (x3 + 1)))) else (none)) else (none)) else (taquinref08_Right.l0 k x0 (wrap64 (x3 + 1)))))) else (none)) else (some true)
def taquinref08_Right.f (k : Nat) (l0 : List Int) : Option (Bool) := taquinref08_Right.l0 k l0 0
def taquinref25_Right.f (l0_0 : List Bool) (a0_1 : Int) : Option (Bool) := if (l0_0.length : Int) < 1 then (some false) else (if (l0_0.length : Int) > 24 then (some false) else (if a0_1 < 0 then (some false) else (if a0_1 ≥ (l0_0.length : Int) then (some false) else (if 0 ≤ a0_1 then (if a0_1 < (l0_0.length : Int) then (some (rdOf false l0_0 a0_1)) else (none)) else (none)))))
def taquinlaw26_fair.f (k : Nat) (a0_0 : Int) (a0_1 : Int) (a0_2 : Int) (l0_3 : List Int) (l0_4 : List Int) (l1 : List Int) (l2_0 : List Bool) (a2_1 : Int) : Option (Bool) := (taquinref07_Few.f a0_0 a0_1 a0_2 l0_3 l0_4 100).bind fun t257 => (if t257 = true then ((taquinref07_Right.f k a0_0 a0_1 a0_2 l0_3 l0_4).bind fun t258 => (if t258 = true then (if (l1.length : Int) ≤ 14 then ((taquinref08_Right.f k l1).bind fun t259 => (if t259 = true then ((taquinref25_Right.f l2_0 a2_1).bind fun t260 => (if t260 = true then (some ((l2_0.length : Int) == (l1.length : Int))) else (some false))) else (some false))) else (some false)) else (some false))) else (some false))
def layout_Shelves.l0 : Nat → Int → List Bool → Int → Int → Option (Int)
 | 0, _, _, _, _ => none
 | k + 1, x3, x7, x8, x9 => if x9 < x8 then (if 0 ≤ x9 then (if x9 < (x7.length : Int) then (if rdOf false x7 x9 = true then (layout_Shelves.l0 k (wrap64 (x3 + 1)) x7 x8 (wrap64 (x9 + 1))) else (layout_Shelves.l0 k x3 x7 x8 (wrap64 (x9 + 1)))) else (none)) else (none)) else (some x3)
def layout_Shelves.f (k : Nat) (l0_0 : List Bool) (a0_1 : Int) : Option (Int) := layout_Shelves.l0 k 0 l0_0 (l0_0.length : Int) 0
set_option maxHeartbeats 8000000 in
set_option maxRecDepth 100000 in
theorem layout_Shelves.calls (k : Nat) (A0_0 : Option Addr) (c0_0 : Nat) (l0_0 : List Bool) (a0_1 : Int) (r : Int) (w : World) (hr0_0 : Kd.C Kd.bool w A0_0 l0_0.length l0_0) (hc0_0 : l0_0.length ≤ c0_0) (h : layout_Shelves.f k l0_0 a0_1 = some r) :
  Calls Try.prog 32 #[.agg #[.slice A0_0 l0_0.length c0_0, .int .i64 a0_1]] w fun e w' => e = .returned (.int .i64 r) ∧ Below w.heap.size w w' := by
 have hu27 := Try.underlying27; have HR0_0 := ak hr0_0; have HC0_0 := ak hc0_0; clear hr0_0 hc0_0; have HB := ak (Below.refl w.heap.size w); have H : (layout_Shelves.l0 k 0 l0_0 (l0_0.length : Int) 0) = some r := h; clear h; have H' := ak H; clear H
 go_enter Try.func32, Try.ntmps32
 go_wp2_with (first | ((with_reducible refine gate_dst (N := 1) rfl ?_); refine box_event ?hg (N := 1) ?hd (cs := #[.slice A0_0 l0_0.length c0_0, .int .i64 a0_1]) (t := 27) ?hr ?_; (case hd => rfl); (case hg => rfl); (case hr => first | (go_simp; done) | (go_simp; rfl)); intro gb101 hg w2 hbox hb; have BK101 := ak (hbox); have GW101 := gw_ hg HB.1.size; have GE101 := gw_ hg HB.1.size; replace HB := ak (below_step HB.1 hb); clear hb hbox hg; obtain ⟨hcz3_0, hcz3_1, hfz3_0, hfz3_1⟩ := bk2 BK101.1))
 go_loopg [3, 9] k (fun kq v3 v9 w' => ∃ (x3_1 : Int) (x9_1 : Int), v3 = .int .i64 x3_1 ∧ v9 = .int .i64 x9_1 ∧ Aside0 (layout_Shelves.l0 kq x3_1 l0_0 (l0_0.length : Int) x9_1 = some r) ∧ Aside0 (kq ≤ k) ∧ Aside0 (w'.heap[gb101]? = some (.cells #[(.slice A0_0 l0_0.length c0_0), .int .i64 a0_1] 27 (0, 0))) ∧ Aside0 (Below w.heap.size w w'))
 case atStart => exact ⟨(0), (0), (rs_), (rs_), H', ⟨Nat.le_refl _⟩, ⟨by (with_reducible repeat (first | refine blk_drewN ?_ _ | refine blk_drew ?_ | refine blk_alloc ?_ _)); exact BK101.1⟩, ⟨hq1_ HB.1 GE101.1⟩⟩
 case round =>
  clear H'; (try clear p2); (try clear c3); (try clear hcz3_0); (try clear hcz3_1); (try clear hfz3_0); (try clear hfz3_1); obtain ⟨x3_1, x9_1, rfl, rfl, HA, HK1, BK101, HB⟩ := hrel
  cases gk with
  | zero => exact absurd HA.1 (by simp [layout_Shelves.l0])
  | succ k1 =>
   have H := HA.1; clear HA; simp only [layout_Shelves.l0] at H
   by_cases c4 : x9_1 < (l0_0.length : Int)
   ·rw [if_pos c4] at H; have c4b0 : decide (x9_1 < (l0_0.length : Int)) = true := decide_eq_true c4; clear c4
    by_cases c5 : 0 ≤ x9_1
    ·rw [if_pos c5] at H; have c5b0 : decide (0 ≤ x9_1) = true := decide_eq_true c5; clear c5
     by_cases c6 : x9_1 < (l0_0.length : Int)
     ·rw [if_pos c6] at H; have c6b0 : decide (x9_1 < (l0_0.length : Int)) = true := decide_eq_true c6; clear c6; obtain ⟨bq7, hbq7⟩ : ∃ b_ : Bool, b_ = (rdOf false l0_0 x9_1) := ⟨_, rfl⟩
      replace H : (if bq7 = true then (layout_Shelves.l0 k1 (wrap64 (x3_1 + 1)) l0_0 (l0_0.length : Int) (wrap64 (x9_1 + 1))) else (layout_Shelves.l0 k1 x3_1 l0_0 (l0_0.length : Int) (wrap64 (x9_1 + 1)))) = some r := by rw [← hbq7] at H; exact H
      have Nbq7 := ak hbq7; clear hbq7
      by_cases c8 : bq7 = true
      ·subst c8
       have H1 : (layout_Shelves.l0 k1 (wrap64 (x3_1 + 1)) l0_0 (l0_0.length : Int) (wrap64 (x9_1 + 1))) = some r := by rw [if_pos rfl] at H; exact H
       clear H; have H := H1; clear H1; have H' := ak H; clear H; have p102 : 0 ≤ (x9_1 : Int) := of_decide_eq_true (as_); have q102 : x9_1 < (l0_0.length : Int) := of_decide_eq_true (as_); obtain ⟨ad102, e102, hx102_0⟩ := Kd.at_bool HR0_0.1 x9_1 p102 q102; (try rw [← Nbq7.1] at hx102_0)
       cases e102
       replace hx102_0 := (HB.1.cell (World.block_lt_of_cell? w _ hx102_0)).trans hx102_0; replace p102 := eq_true p102; replace q102 := eq_true q102
       go_wp2
       go_roundg k1
       case measure => have := HK1.1; omega
       case rel => exact ⟨(wrap64 (x3_1 + 1)), (wrap64 (x9_1 + 1)), (rs_), (rs_), H', ⟨by have := HK1.1; omega⟩, ⟨by (with_reducible repeat (first | refine blk_drewN ?_ _ | refine blk_drew ?_ | refine blk_alloc ?_ _)); exact BK101.1⟩, ⟨hq1_ HB.1 GE101.1⟩⟩
      ·replace c8 := Bool.eq_false_iff.mpr c8; subst c8
       have H1 : (layout_Shelves.l0 k1 x3_1 l0_0 (l0_0.length : Int) (wrap64 (x9_1 + 1))) = some r := by rw [if_neg (show ¬ (false = true) by decide)] at H; exact H
       clear H; have H := H1; clear H1; have H' := ak H; clear H; have p102 : 0 ≤ (x9_1 : Int) := of_decide_eq_true (as_); have q102 : x9_1 < (l0_0.length : Int) := of_decide_eq_true (as_); obtain ⟨ad102, e102, hx102_0⟩ := Kd.at_bool HR0_0.1 x9_1 p102 q102; (try rw [← Nbq7.1] at hx102_0)
       cases e102
       replace hx102_0 := (HB.1.cell (World.block_lt_of_cell? w _ hx102_0)).trans hx102_0; replace p102 := eq_true p102; replace q102 := eq_true q102
       go_wp2
       go_roundg k1
       case measure => have := HK1.1; omega
       case rel => exact ⟨(x3_1), (wrap64 (x9_1 + 1)), (rs_), (rs_), H', ⟨by have := HK1.1; omega⟩, ⟨by (with_reducible repeat (first | refine blk_drewN ?_ _ | refine blk_drew ?_ | refine blk_alloc ?_ _)); exact BK101.1⟩, ⟨hq1_ HB.1 GE101.1⟩⟩
     ·rw [if_neg c6] at H; exact absurd H (by simp)
    ·rw [if_neg c5] at H; exact absurd H (by simp)
   ·rw [if_neg c4] at H; have c4b0 : decide (x9_1 < (l0_0.length : Int)) = false := decide_eq_false c4; clear c4; obtain rfl := Option.some.inj H
    go_wp2
    go_ret
    exact ⟨er_, hq1_ HB.1 GE101.1⟩
end Go.Proofs.Ytogmjilaiopjmaa.P
end
section
namespace Go.Proofs.Ytogmjilaiopjmaa.P
def bin : Nat → Nat → Nat
 | _, 0 => 1
 | 0, _ + 1 => 0
 | n + 1, k + 1 => bin n k + bin n (k + 1)
theorem bin_zero (n : Nat) : bin n 0 = 1 := by cases n <;> rfl
theorem bin_succ (n k : Nat) : bin (n + 1) (k + 1) = bin n k + bin n (k + 1) := rfl
theorem bin_big : ∀ (n k : Nat), n < k → bin n k = 0
 | 0, k + 1, _ => rfl
 | n + 1, k + 1, h => by rw [bin_succ, bin_big n k (by omega), bin_big n (k + 1) (by omega)]
theorem bin_le : ∀ (n k : Nat), bin n k ≤ 2 ^ n
 | n, 0 => by rw [bin_zero]; exact Nat.one_le_two_pow
 | 0, k + 1 => by simp [bin]
 | n + 1, k + 1 => by
  rw [bin_succ, Nat.pow_succ]; have h1 := bin_le n k; have h2 := bin_le n (k + 1)
  omega
theorem bin_lt {n k : Nat} (h : n < 25) : bin n k ≤ 16777216 := by
 have h1 := bin_le n k; have h2 : 2 ^ n ≤ 2 ^ 24 := Nat.pow_le_pow_right (by omega) (by omega)
 have h3 : (2 : Nat) ^ 24 = 16777216 := by decide
 omega
theorem bin_pos : ∀ (n k : Nat), k ≤ n → 1 ≤ bin n k
 | n, 0, _ => by rw [bin_zero]; exact Nat.le_refl _
 | n + 1, k + 1, h => by rw [bin_succ]; have := bin_pos n k (by omega); omega
def tabF (n k c : Nat) : Nat := if c / 25 < n then bin (c / 25) (c % 25) else if c / 25 = n then (if c % 25 ≤ k then bin n (c % 25) else 0) else 0
def tabG (n c : Nat) : Nat := if c / 25 < n then bin (c / 25) (c % 25) else 0
theorem tabF_first (n c : Nat) (h : c / 25 = n) (h0 : c % 25 = 0) : tabF n 0 c = 1 := by
 unfold tabF
 rw [if_neg (by omega), if_pos h, if_pos (by omega), h0, bin_zero]
theorem tabF_other0 (n c : Nat) (h : c ≠ n * 25) : tabF n 0 c = tabG n c := by
 unfold tabF tabG
 by_cases h1 : c / 25 < n
 ·rw [if_pos h1, if_pos h1]
 ·rw [if_neg h1, if_neg h1]
  by_cases h2 : c / 25 = n
  ·rw [if_pos h2, if_neg (by omega)]
  ·rw [if_neg h2]
theorem tabF_at (n k : Nat) (h : k < 24) : tabF n (k + 1) (n * 25 + (k + 1)) = bin n (k + 1) := by
 unfold tabF
 rw [if_neg (by omega), if_pos (by omega), show (n * 25 + (k + 1)) % 25 = k + 1 by omega, if_pos (Nat.le_refl _)]
theorem tabF_other (n k c : Nat) (h : c ≠ n * 25 + (k + 1)) : tabF n (k + 1) c = tabF n k c := by
 unfold tabF
 by_cases h1 : c / 25 < n
 ·rw [if_pos h1, if_pos h1]
 ·rw [if_neg h1, if_neg h1]
  by_cases h2 : c / 25 = n
  ·rw [if_pos h2, if_pos h2]
   by_cases h3 : c % 25 ≤ k
   ·rw [if_pos h3, if_pos (by omega)]
   ·rw [if_neg h3, if_neg (by omega)]
  ·rw [if_neg h2, if_neg h2]
theorem tabF_last (n c : Nat) : tabF n n c = tabG (n + 1) c := by
 unfold tabF tabG
 by_cases h1 : c / 25 < n
 ·rw [if_pos h1, if_pos (by omega)]
 ·rw [if_neg h1]
  by_cases h2 : c / 25 = n
  ·rw [if_pos h2, if_pos (show c / 25 < n + 1 by omega), h2]
   by_cases h3 : c % 25 ≤ n
   ·rw [if_pos h3]
   ·rw [if_neg h3, bin_big n _ (by omega)]
  ·rw [if_neg h2, if_neg (by omega)]
theorem tabF_up (n k j : Nat) (h : 0 < n) (hj : j < 25) : tabF n k ((n - 1) * 25 + j) = bin (n - 1) j := by
 unfold tabF
 rw [if_pos (by omega), show ((n - 1) * 25 + j) / 25 = n - 1 by omega, show ((n - 1) * 25 + j) % 25 = j by omega]
theorem tabG_at (i j : Nat) (hi : i < 25) (hj : j < 25) : tabG 25 (i * 25 + j) = bin i j := by
 unfold tabG
 rw [if_pos (by omega), show (i * 25 + j) / 25 = i by omega, show (i * 25 + j) % 25 = j by omega]
def oth (t : Nat) : Nat → List Bool → List Bool
 | _, [] => []
 | i, b :: bs => if i = t then oth t (i + 1) bs else b :: oth t (i + 1) bs
def shel (l : List Bool) : Nat := l.count true
def rk : List Bool → Nat
 | [] => 0
 | true :: bs => rk bs
 | false :: bs => (if 0 < shel bs then bin bs.length (shel bs - 1) else 0) + rk bs
theorem oth_past (t : Nat) : ∀ (i : Nat) (l : List Bool), t < i → oth t i l = l
 | _, [], _ => rfl
 | i, b :: bs, h => by rw [oth, if_neg (by omega), oth_past t (i + 1) bs (by omega)]
theorem oth_len (t : Nat) : ∀ (i : Nat) (l : List Bool), i ≤ t → t < i + l.length → (oth t i l).length + 1 = l.length
 | i, [], h, h' => by simp at h'; omega
 | i, b :: bs, h, h' => by
  rw [oth]
  by_cases e : i = t
  ·rw [if_pos e, oth_past t (i + 1) bs (by omega)]; rfl
  ·rw [if_neg e]; have := oth_len t (i + 1) bs (by omega) (by simp at h'; omega); simp only [List.length_cons]; omega
theorem oth_len_le (t : Nat) : ∀ (i : Nat) (l : List Bool), (oth t i l).length ≤ l.length
 | _, [] => Nat.le_refl _
 | i, b :: bs => by
  have := oth_len_le t (i + 1) bs; rw [oth]
  split <;> simp only [List.length_cons] <;> omega
theorem shel_cons (b : Bool) (bs : List Bool) : shel (b :: bs) = (if b then 1 else 0) + shel bs := by
 unfold shel
 cases b <;> simp <;> omega
theorem shel_nil : shel [] = 0 := rfl
theorem shel_le (l : List Bool) : shel l ≤ l.length := List.count_le_length
theorem oth_shel (t : Nat) : ∀ (i : Nat) (l : List Bool), i ≤ t → l.getD (t - i) false = true → shel (oth t i l) + 1 = shel l
 | i, [], h, h' => by simp at h'
 | i, b :: bs, h, h' => by
  rw [oth]
  by_cases e : i = t
  ·subst e
   simp at h'
   rw [if_pos rfl, oth_past i (i + 1) bs (by omega), shel_cons, h']
   simp; omega
  ·rw [if_neg e, shel_cons, shel_cons]
   have h2 : bs.getD (t - (i + 1)) false = true := by
    rw [show t - i = (t - (i + 1)) + 1 by omega, List.getD_cons_succ] at h'; exact h'
   have := oth_shel t (i + 1) bs (by omega) h2
   omega
theorem rk_lt : ∀ l : List Bool, rk l + 1 ≤ 2 ^ l.length
 | [] => by simp [rk]
 | true :: bs => by
  have := rk_lt bs; simp only [rk, List.length_cons, Nat.pow_succ]; omega
 | false :: bs => by
  have h1 := rk_lt bs; have h2 := bin_le bs.length (shel bs - 1); simp only [rk, List.length_cons, Nat.pow_succ]
  split <;> omega
def okL (l : List Bool) (t : Int) : Bool := decide (1 ≤ l.length) && decide (l.length ≤ 24) && decide (0 ≤ t) && decide (t < l.length) && l.getD t.toNat false
theorem okL_iff {l : List Bool} {t : Int} : okL l t = true ↔ 1 ≤ l.length ∧ l.length ≤ 24 ∧ 0 ≤ t ∧ t < l.length ∧ l.getD t.toNat false = true := by
 unfold okL
 simp only [Bool.and_eq_true, decide_eq_true_eq, and_assoc]
def rankN (l : List Bool) (t : Nat) : Nat := t * bin (l.length - 1) (shel l - 1) + rk (oth t 0 l)
theorem rankN_le {l : List Bool} {t : Nat} (h1 : l.length ≤ 24) (ht : t < l.length) : rankN l t ≤ 500000000 := by
 unfold rankN
 have e : t * bin (l.length - 1) (shel l - 1) ≤ 24 * 16777216 := Nat.mul_le_mul (by omega) (bin_lt (by omega)); have h2 := rk_lt (oth t 0 l); have h3 := oth_len t 0 l (by omega) (by omega); have h4 : 2 ^ (oth t 0 l).length ≤ 2 ^ 24 := Nat.pow_le_pow_right (by omega) (by omega)
 have h5 : (2 : Nat) ^ 24 = 16777216 := by decide
 omega
theorem oth_drop (t : Nat) (l : List Bool) (i : Nat) (h : i < l.length) : oth t i (l.drop i) = if i = t then oth t (i + 1) (l.drop (i + 1)) else l.getD i false :: oth t (i + 1) (l.drop (i + 1)) := by
 rw [List.drop_eq_getElem_cons h, oth, List.getD_eq_getElem?_getD, List.getElem?_eq_getElem h]; rfl
end Go.Proofs.Ytogmjilaiopjmaa.P
end
section
namespace Go.Proofs.Ytogmjilaiopjmaa.P
open Go.RowKit Go.Proofs.YtogmjilaiopjmaaW.PrintWords Go.Proofs.YtogmjilaiopjmaaW.PrintLast Go.Proofs.YtogmjilaiopjmaaW.PrintMore
theorem wrap_id {x : Int} (h0 : -9223372036854775808 ≤ x) (h1 : x ≤ 9223372036854775807) : wrap64 x = x := by
 unfold wrap64
 omega
theorem bool_cells {w : World} {A : Option Addr} {n : Nat} {l : List Bool} (h : Kd.C Kd.bool w A n l) (hn : 0 < n) : ∃ ad, A = some ad ∧ ∀ i, i < n → w.cell? (ad.add i) = some (.bool (l.getD i false)) := by
 obtain ⟨ad, e, _⟩ := Kd.at_bool h 0 (by omega) (by omega); refine ⟨ad, e, fun i hi => ?_⟩; obtain ⟨ad', e', h'⟩ := Kd.at_bool h (i : Int) (by omega) (by omega); rw [e] at e'; obtain rfl := Option.some.inj e'
 simpa [rdOf] using h'
theorem int_cells {w : World} {A : Option Addr} {n : Nat} {l : List Int} (h : Kd.C (Kd.int .i64) w A n l) (hn : 0 < n) : ∃ ad, A = some ad ∧ ∀ i, i < n → w.cell? (ad.add i) = some (.int .i64 (l.getD i 0)) := by
 obtain ⟨ad, e, _⟩ := Kd.at_int h 0 (by omega) (by omega); refine ⟨ad, e, fun i hi => ?_⟩; obtain ⟨ad', e', h'⟩ := Kd.at_int h (i : Int) (by omega) (by omega); rw [e] at e'; obtain rfl := Option.some.inj e'
 simpa [rd] using h'
theorem shelves_l0 (l : List Bool) (hl : l.length ≤ 1000000) : ∀ (d k i acc : Nat), i + d = l.length → d < k → acc ≤ i → layout_Shelves.l0 k (acc : Int) l (l.length : Int) (i : Int) = some ((acc + shel (l.drop i) : Nat) : Int) := by
 intro d
 induction d with
 | zero =>
  intro k i acc hi hk ha; obtain ⟨k, rfl⟩ : ∃ m, k = m + 1 := ⟨k - 1, by omega⟩; simp only [layout_Shelves.l0]; rw [if_neg (by omega), List.drop_of_length_le (by omega), shel_nil]; rfl
 | succ d ih =>
  intro k i acc hi hk ha; obtain ⟨k, rfl⟩ : ∃ m, k = m + 1 := ⟨k - 1, by omega⟩; simp only [layout_Shelves.l0]; rw [if_pos (by omega), if_pos (by omega), if_pos (by omega), wrap_id (by omega) (by omega), wrap_id (by omega) (by omega)]; have h1 := ih k (i + 1) (acc + 1) (by omega) (by omega) (by omega); have h2 := ih k (i + 1) acc (by omega) (by omega) (by omega)
  have h3 : shel (l.drop i) = (if l.getD i false then 1 else 0) + shel (l.drop (i + 1)) := by
   rw [List.drop_eq_getElem_cons (by omega), shel_cons, List.getD_eq_getElem?_getD, List.getElem?_eq_getElem (by omega)]; rfl
  have h4 : rdOf false l (i : Int) = l.getD i false := by simp [rdOf]
  rw [h4, h3]
  cases hb : l.getD i false
  ·rw [if_neg (by simp)]; simp only [Bool.false_eq_true, if_false, Nat.zero_add]; exact h2
  ·rw [if_pos rfl]; simp only [if_true]; rw [show acc + (1 + shel (l.drop (i + 1))) = acc + 1 + shel (l.drop (i + 1)) by omega]; exact h1
theorem shelves_f (l : List Bool) (t : Int) (hl : l.length ≤ 1000000) : layout_Shelves.f (l.length + 1) l t = some (shel l : Int) := by
 unfold layout_Shelves.f
 have := shelves_l0 l hl l.length (l.length + 1) 0 0 (by omega) (by omega) (by omega)
 simpa using this
end Go.Proofs.Ytogmjilaiopjmaa.P
end
section
namespace Go.Proofs.Ytogmjilaiopjmaa.P
open Go.RowKit Go.Proofs.YtogmjilaiopjmaaW.PrintWords Go.Proofs.YtogmjilaiopjmaaW.PrintLast Go.Proofs.YtogmjilaiopjmaaW.PrintMore
def RowBlk {α : Type} (enc : α → Value) (t : Nat) (w : World) (g : Nat) (l : List α) : Prop := w.heap[g]? = some (.cells (l.map enc).toArray t (0, 0))
abbrev BoolBlk := RowBlk Value.bool 4
abbrev IntBlk := RowBlk (Value.int .i64) 3
section
variable {α : Type} {enc : α → Value} {t : Nat} {w w1 : World} {g : Nat} {l : List α}
theorem RowBlk.cell (h : RowBlk enc t w g l) (d : α) (i : Nat) (hi : i < l.length) : w.cell? ⟨g, i, none⟩ = some (enc (l.getD i d)) := by
 rw [blk_cell h i]
 simp [List.getElem?_eq_getElem hi, List.getD_eq_getElem?_getD]
theorem RowBlk.free (h : RowBlk enc t w g l) (i : Nat) : w.frozen? ⟨g, i, none⟩ = false := blk_frozen h i
theorem RowBlk.set (h : RowBlk enc t w g l) (i : Nat) (x : α) : RowBlk enc t (w.setCell ⟨g, i, none⟩ (enc x)) g (l.set i x) := by
 have := blk_set h i (enc x)
 unfold RowBlk
 rw [this]
 simp
theorem RowBlk.far (h : RowBlk enc t w g l) {p : Addr} (hp : g ≠ p.block) (u : Value) : RowBlk enc t (w.setCell p u) g l := blk_far h hp u
theorem RowBlk.below (h : RowBlk enc t w g l) (hb : Below w.heap.size w w1) : RowBlk enc t w1 g l := blk_below h hb
theorem RowBlk.ofR {h1 : ∀ x, (enc x).oneCell' = true} {base : Nat} {ok : Nat → Prop} (h : RowBlk enc t w g l) (hb : base ≤ g) (hok : ok g) (hl : l.length ≤ 9223372036854775807) : (Kd.scalar enc h1).R t w base ok (.slice (some ⟨g, 0, none⟩) l.length l.length) l := by
 refine Kd.R_of_own ⟨by simp [encs], .inr ⟨g, l.length, _, rfl, hb, h, Nat.le_refl _, by simp only [maxLen]; omega, by simp, by simp [encs]; rw [List.take_of_length_le (by simp)]⟩⟩ (fun k hk => ?_)
 have : g = k := by simpa [Value.ownBlock] using hk
 exact this ▸ hok
end
theorem R_form {α : Type} {enc : α → Value} {h1 : ∀ x, (enc x).oneCell' = true} {e : Nat} {w : World} {base : Nat} {ok : Nat → Prop} {v : Value} {l : List α} (h : (Kd.scalar enc h1).R e w base ok v l) (hn : 0 < l.length) : ∃ g cap, v = .slice (some ⟨g, 0, none⟩) l.length cap ∧ base ≤ g := by
 have ho := Kd.own_of_R h
 rcases ho.2 with ⟨_, h0⟩ | ⟨g, cap, cur, rfl, hg, _⟩
 ·omega
 ·exact ⟨g, cap, rfl, hg⟩
theorem cell_off_ne (w : World) (g i j : Nat) (u : Value) (h : j ≠ i) : (w.setCell ⟨g, i, none⟩ u).cell? ⟨g, j, none⟩ = w.cell? ⟨g, j, none⟩ := by
 refine World.cell?_setCell_other w _ _ _ ?_; intro e
 injection e with _ e2
 exact h e2.symm
theorem alloc2_fst (w : World) (o1 o2 : Obj) : ((w.alloc o1).alloc o2).heap[w.heap.size]? = some o1 := blk_alloc (blk_new w o1) o2
theorem alloc2_snd (w : World) (o1 o2 : Obj) : ((w.alloc o1).alloc o2).heap[w.heap.size + 1]? = some o2 := by
 have h := blk_new (w.alloc o1) o2
 rwa [show (w.alloc o1).heap.size = w.heap.size + 1 by simp] at h
theorem blk_alloc2 {w : World} {g : Nat} {o : Obj} (h : w.heap[g]? = some o) (o1 o2 : Obj) : ((w.alloc o1).alloc o2).heap[g]? = some o := blk_alloc (blk_alloc h o1) o2
theorem below_alloc2 {w W : World} (h : Below w.heap.size w W) (o1 o2 : Obj) : Below w.heap.size w ((W.alloc o1).alloc o2) := below_alloc (below_alloc h o1) o2
theorem made_bools (n : Nat) : madeCells #[.bool false] n = ((List.replicate n false).map Value.bool).toArray := by
 apply Array.ext
 ·simp [size_madeCells]
 ·intro i h1 h2
  simp [madeCells, Nat.mod_one]
theorem made_ints (n : Nat) : madeCells #[.int .i64 0] n = ((List.replicate n (0 : Int)).map (Value.int .i64)).toArray := by
 apply Array.ext
 ·simp [size_madeCells]
 ·intro i h1 h2
  simp [madeCells, Nat.mod_one]
end Go.Proofs.Ytogmjilaiopjmaa.P
end
