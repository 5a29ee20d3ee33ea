/- Lemmas for the row of this claim: contracts of the functions that it reaches, and plain laws about numbers and lists. -/
import Derived.Test.YtogmjilaiopjmaaTells2
import Derived.Test.YtogmjilaiopjmaaProg
set_option linter.unusedVariables false
set_option linter.unusedSimpArgs false
section
namespace Go.Proofs.Ytogmjilaiopjmaa.P
open Go.RowKit Go.Proofs.YtogmjilaiopjmaaW.PrintWords Go.Proofs.YtogmjilaiopjmaaW.PrintLast Go.Proofs.YtogmjilaiopjmaaW.PrintMore
attribute [local go_sem] max2_int min2_int max_two min_two max_three min_three max_four min_four
def errW : Option Int → Value
 | none => .nilIface
 | some c => .iface 0 (.int .i64 c)
theorem errW_none : errW none = .nilIface := rfl
theorem errW_some (c : Int) : errW (some c) = .iface 0 (.int .i64 c) := rfl
theorem info3 : (Try.prog.info? 3).map (fun i => (i.zero, i.size, i.bytes)) = some (some (.int .i64 0), 1, 8) := by kernel_rfl
theorem info4 : (Try.prog.info? 4).map (fun i => (i.zero, i.size, i.bytes)) = some (some (.bool false), 1, 1) := by kernel_rfl
theorem info51 : (Try.prog.info? 51).map (fun i => (i.zero, i.size, i.bytes)) = some (some (.agg #[(.int .i64 0), (.int .i64 0)]), 2, 16) := by kernel_rfl
structure S51 where
 f0 : Int
 f1 : Int
def z51 : S51 := ⟨(0 : Int), (0 : Int)⟩
def k51 : Kd S51 := Kd.iso (Kd.pair (Kd.int .i64) (Kd.int .i64)) (fun x : S51 => (x.f0, x.f1))
theorem k51_open {w : World} {x : S51} {cs : List Value} (h : k51.K w x cs) : cs = [.int .i64 x.f0, .int .i64 x.f1] := by
 obtain ⟨_, _, rfl, rfl, rfl⟩ := h; exact rfl
theorem k51_openM {w : World} {base : Nat} {ok : Nat → Prop} {x : S51} {cs : List Value} (h : k51.M w base ok x cs) : cs = [.int .i64 x.f0, .int .i64 x.f1] := by
 obtain ⟨_, _, rfl, rfl, rfl⟩ := h; exact rfl
theorem k51_mkM (w : World) (base : Nat) (ok : Nat → Prop) (x : S51)  : k51.M w base ok x [.int .i64 x.f0, .int .i64 x.f1] := ⟨[.int .i64 x.f0], [.int .i64 x.f1], rfl, rfl, rfl⟩
def rd_T51 (xs : List S51) (i : Int) : S51 := xs.getD i.toNat z51
theorem at_T51 {w : World} {A : Option Addr} {n : Nat} {xs : List S51} (h : Kd.C k51 w A n xs) (i : Int) (h0 : 0 ≤ i) (h1 : i < n) : ∃ ad , A = some ad ∧ w.cell? (ad.add (i.toNat * 2)) = some (.int .i64 (rd_T51 xs i).f0) ∧ w.cell? ⟨(ad.add (i.toNat * 2)).block, (ad.add (i.toNat * 2)).off + 1, none⟩ = some (.int .i64 (rd_T51 xs i).f1) := by
 obtain ⟨ad, c, e, _, hK, hc0⟩ := Kd.C_get h z51 i h0 h1; have hc : ∀ j u, c[j]? = some u → w.cell? (ad.add (i.toNat * 2 + j)) = some u := hc0; obtain rfl := k51_open hK; exact ⟨ad, e, hc 0 _ rfl, by rw [← add_field _ _ 1 (by omega)]; exact hc 1 _ rfl⟩
end Go.Proofs.Ytogmjilaiopjmaa.P
end
section
namespace Go.Proofs.Ytogmjilaiopjmaa.P
open Go.RowKit Go.Proofs.YtogmjilaiopjmaaW.PrintWords Go.Proofs.YtogmjilaiopjmaaW.PrintLast Go.Proofs.YtogmjilaiopjmaaW.PrintMore
theorem bk2 {w : World} {g : Nat} {t : TypeId} {a0 a1 : Value} (h : w.heap[g]? = some (.cells #[a0, a1] t (0, 0))) : w.cell? ⟨g, 0, none⟩ = some a0 ∧ w.cell? ⟨g, 1, none⟩ = some a1 ∧ w.frozen? ⟨g, 0, none⟩ = false ∧ w.frozen? ⟨g, 1, none⟩ = false :=
 ⟨(blk_cell h 0).trans rfl, (blk_cell h 1).trans rfl, blk_frozen h 0, blk_frozen h 1⟩
theorem bk5 {w : World} {g : Nat} {t : TypeId} {a0 a1 a2 a3 a4 : Value} (h : w.heap[g]? = some (.cells #[a0, a1, a2, a3, a4] t (0, 0))) : w.cell? ⟨g, 0, none⟩ = some a0 ∧ w.cell? ⟨g, 1, none⟩ = some a1 ∧ w.cell? ⟨g, 2, none⟩ = some a2 ∧ w.cell? ⟨g, 3, none⟩ = some a3 ∧ w.cell? ⟨g, 4, none⟩ = some a4 ∧ w.frozen? ⟨g, 0, none⟩ = false ∧ w.frozen? ⟨g, 1, none⟩ = false ∧ w.frozen? ⟨g, 2, none⟩ = false ∧ w.frozen? ⟨g, 3, none⟩ = false ∧ w.frozen? ⟨g, 4, none⟩ = false :=
 ⟨(blk_cell h 0).trans rfl, (blk_cell h 1).trans rfl, (blk_cell h 2).trans rfl, (blk_cell h 3).trans rfl, (blk_cell h 4).trans rfl, blk_frozen h 0, blk_frozen h 1, blk_frozen h 2, blk_frozen h 3, blk_frozen h 4⟩
end Go.Proofs.Ytogmjilaiopjmaa.P
end
section
namespace Go.Proofs.Ytogmjilaiopjmaa.P
open Go.RowKit Go.Proofs.YtogmjilaiopjmaaW.PrintWords Go.Proofs.YtogmjilaiopjmaaW.PrintLast Go.Proofs.YtogmjilaiopjmaaW.PrintMore
attribute [local go_sem] max2_int min2_int max_two min_two max_three min_three max_four min_four
def taquinref07_Few.f (a0_0 : Int) (a0_1 : Int) (a0_2 : Int) (l0_3 : List Int) (l0_4 : List Int) (a1 : Int) : Option (Bool) := if (l0_3.length : Int) ≤ a1 then (some (decide ((l0_4.length : Int) ≤ a1))) else (some false)
set_option maxHeartbeats 8000000 in
set_option maxRecDepth 100000 in
theorem taquinref07_Few.calls (a0_0 : Int) (a0_1 : Int) (a0_2 : Int) (A0_3 : Option Addr) (c0_3 : Nat) (l0_3 : List Int) (A0_4 : Option Addr) (c0_4 : Nat) (l0_4 : List Int) (a1 : Int) (r : Bool) (w : World) (hr0_3 : Kd.C (Kd.int .i64) w A0_3 l0_3.length l0_3) (hc0_3 : l0_3.length ≤ c0_3) (hr0_4 : Kd.C (Kd.int .i64) w A0_4 l0_4.length l0_4) (hc0_4 : l0_4.length ≤ c0_4) (h : taquinref07_Few.f a0_0 a0_1 a0_2 l0_3 l0_4 a1 = some r) :
  Calls Try.prog 24 #[.agg #[.int .i64 a0_0, .int .i64 a0_1, .int .i64 a0_2, .slice A0_3 l0_3.length c0_3, .slice A0_4 l0_4.length c0_4], .int .i64 a1] w fun e w' => e = .returned (.bool r) ∧ Below w.heap.size w w' := by
 have hu24 := Try.underlying24; have HR0_3 := ak hr0_3; have HC0_3 := ak hc0_3; clear hr0_3 hc0_3; have HR0_4 := ak hr0_4; have HC0_4 := ak hc0_4; clear hr0_4 hc0_4; have HB := ak (Below.refl w.heap.size w); have H : (if (l0_3.length : Int) ≤ a1 then (some (decide ((l0_4.length : Int) ≤ a1))) else (some false)) = some r := h; clear h
 by_cases c3 : (l0_3.length : Int) ≤ a1
 ·rw [if_pos c3] at H; have c3b0 : decide ((l0_3.length : Int) ≤ a1) = true := decide_eq_true c3; clear c3; obtain rfl := Option.some.inj H
  go_enter Try.func24, Try.ntmps24
  go_wp2_with (first | ((with_reducible refine gate_dst (N := 2) rfl ?_); (try (refine gate_guard (by rfl) ?_; dsimp only)); refine box_event ?hg (N := 2) ?hd (cs := #[.int .i64 a0_0, .int .i64 a0_1, .int .i64 a0_2, .slice A0_3 l0_3.length c0_3, .slice A0_4 l0_4.length c0_4]) (t := 24) ?hr ?_; (case hd => rfl); (case hg => rfl); (case hr => first | (go_simp; done) | (go_simp; rfl)); intro gb201 hg w4 hbox hb; have BK201 := ak (hbox); have GW201 := gw_ hg HB.1.size; have GE201 := gw_ hg HB.1.size; replace HB := ak (below_step HB.1 hb); clear hb hbox hg; obtain ⟨hcz5_0, hcz5_1, hcz5_2, hcz5_3, hcz5_4, hfz5_0, hfz5_1, hfz5_2, hfz5_3, hfz5_4⟩ := bk5 BK201.1))
  go_ret
  exact ⟨er_, hq1_ HB.1 GE201.1⟩
 ·rw [if_neg c3] at H; have c3b0 : decide ((l0_3.length : Int) ≤ a1) = false := decide_eq_false c3; clear c3; obtain rfl := Option.some.inj H
  go_enter Try.func24, Try.ntmps24
  go_wp2_with (first | ((with_reducible refine gate_dst (N := 2) rfl ?_); (try (refine gate_guard (by rfl) ?_; dsimp only)); refine box_event ?hg (N := 2) ?hd (cs := #[.int .i64 a0_0, .int .i64 a0_1, .int .i64 a0_2, .slice A0_3 l0_3.length c0_3, .slice A0_4 l0_4.length c0_4]) (t := 24) ?hr ?_; (case hd => rfl); (case hg => rfl); (case hr => first | (go_simp; done) | (go_simp; rfl)); intro gb201 hg w6 hbox hb; have BK201 := ak (hbox); have GW201 := gw_ hg HB.1.size; have GE201 := gw_ hg HB.1.size; replace HB := ak (below_step HB.1 hb); clear hb hbox hg; obtain ⟨hcz7_0, hcz7_1, hcz7_2, hcz7_3, hcz7_4, hfz7_0, hfz7_1, hfz7_2, hfz7_3, hfz7_4⟩ := bk5 BK201.1))
  go_ret
  exact ⟨er_, hq1_ HB.1 GE201.1⟩
mutual
def taquinref07_Right.j0 : Nat → Bool → Int → Int → Int → List Int → List Int → Option (Bool)
 | 0, _, _, _, _, _, _ => none
 | k + 1, x32, x203000, x203001, x203002, x203003, x203004 => if x32 = true then (some false) else (if (wrap64 ((wrap64 (x203000 * x203001)) * x203002)) > 4096 then (taquinref07_Right.j1 k (wrap64 ((wrap64 (x203000 * x203001)) * x203002)) true x203000 x203001 x203002 x203003 x203004) else (if (x203003.length : Int) = (wrap64 ((wrap64 (x203000 * x203001)) * x203002)) then (taquinref07_Right.j1 k (wrap64 ((wrap64 (x203000 * x203001)) * x203002)) ((x203004.length : Int) != (wrap64 ((wrap64 (x203000 * x203001)) * x203002))) x203000 x203001 x203002 x203003 x203004) else (taquinref07_Right.j1 k (wrap64 ((wrap64 (x203000 * x203001)) * x203002)) true x203000 x203001 x203002 x203003 x203004)))
def taquinref07_Right.j1 : Nat → Int → Bool → Int → Int → Int → List Int → List Int → Option (Bool)
 | 0, _, _, _, _, _, _, _ => none
 | k + 1, x3, x56, x203000, x203001, x203002, x203003, x203004 => if x56 = true then (some false) else (taquinref07_Right.l0 k x3 0 x203000 x203001 x203002 x203003 x203004)
def taquinref07_Right.l0 : Nat → Int → Int → Int → Int → Int → List Int → List Int → Option (Bool)
 | 0, _, _, _, _, _, _, _ => none
 | k + 1, x3, x4, x203000, x203001, x203002, x203003, x203004 => if x4 < x3 then (if 0 ≤ x4 then (if x4 < (x203003.length : Int) then (if (rd x203003 x4) < 0 then (some false) else (if (rd x203003 x4) ≥ 7 then (some false) else (if x4 < (x203004.length : Int) then (if (rd x203004 x4) < 0 then (some false) else (if (rd x203004 x4) > 63 then (some false) else (taquinref07_Right.l0 k x3 (wrap64 (x4 + 1)) x203000 x203001 x203002 x203003 x203004))) else (none)))) else (none)) else (none)) else (some true)
end
def taquinref07_Right.f (k : Nat) (a0_0 : Int) (a0_1 : Int) (a0_2 : Int) (l0_3 : List Int) (l0_4 : List Int) : Option (Bool) := if a0_0 < 1 then (taquinref07_Right.j0 k true a0_0 a0_1 a0_2 l0_3 l0_4) else (if a0_1 < 1 then (taquinref07_Right.j0 k true a0_0 a0_1 a0_2 l0_3 l0_4) else (if a0_2 < 1 then (taquinref07_Right.j0 k true a0_0 a0_1 a0_2 l0_3 l0_4) else (if a0_2 > 4 then (taquinref07_Right.j0 k true a0_0 a0_1 a0_2 l0_3 l0_4) else (if a0_0 > 4096 then (taquinref07_Right.j0 k true a0_0 a0_1 a0_2 l0_3 l0_4) else (taquinref07_Right.j0 k (decide (a0_1 > 4096)) a0_0 a0_1 a0_2 l0_3 l0_4)))))
theorem taquinref07_Right.mono_l : ∀ k, (∀ y0 y1 y2 y3 y4 y5, LeO (taquinref07_Right.j0 k y0 y1 y2 y3 y4 y5) (taquinref07_Right.j0 (k + 1) y0 y1 y2 y3 y4 y5)) ∧ (∀ y0 y1 y2 y3 y4 y5 y6, LeO (taquinref07_Right.j1 k y0 y1 y2 y3 y4 y5 y6) (taquinref07_Right.j1 (k + 1) y0 y1 y2 y3 y4 y5 y6)) ∧ (∀ y0 y1 y2 y3 y4 y5 y6, LeO (taquinref07_Right.l0 k y0 y1 y2 y3 y4 y5 y6) (taquinref07_Right.l0 (k + 1) y0 y1 y2 y3 y4 y5 y6))
 | 0 => ⟨fun _ _ _ _ _ _ r h => by simp [taquinref07_Right.j0] at h, fun _ _ _ _ _ _ _ r h => by simp [taquinref07_Right.j1] at h, fun _ _ _ _ _ _ _ r h => by simp [taquinref07_Right.l0] at h⟩
 | k + 1 => by
  obtain ⟨ih0, ih1, ih2⟩ := taquinref07_Right.mono_l k; refine ⟨?_, ?_, ?_⟩
  ·intro y0 y1 y2 y3 y4 y5
   unfold taquinref07_Right.j0
   repeat' first
   | (with_reducible exact ih0 _ _ _ _ _ _)
   | (with_reducible exact ih1 _ _ _ _ _ _ _)
   | (with_reducible exact ih2 _ _ _ _ _ _ _)
   | (with_reducible exact LeO.refl _)
   | (with_reducible exact LeO.none _)
   | (with_reducible refine LeO.ite ?_ ?_)
   | (with_reducible refine LeO.bind ?_ (fun _ => ?_))
   | exact ih0 _ _ _ _ _ _
   | exact ih1 _ _ _ _ _ _ _
   | exact ih2 _ _ _ _ _ _ _
   | exact LeO.none _
   | refine LeO.ite ?_ ?_
   | refine LeO.bind ?_ (fun _ => ?_)
  ·intro y0 y1 y2 y3 y4 y5 y6
   unfold taquinref07_Right.j1
   repeat' first
   | (with_reducible exact ih0 _ _ _ _ _ _)
   | (with_reducible exact ih1 _ _ _ _ _ _ _)
   | (with_reducible exact ih2 _ _ _ _ _ _ _)
   | (with_reducible exact LeO.refl _)
   | (with_reducible exact LeO.none _)
   | (with_reducible refine LeO.ite ?_ ?_)
   | (with_reducible refine LeO.bind ?_ (fun _ => ?_))
   | exact ih0 _ _ _ _ _ _
   | exact ih1 _ _ _ _ _ _ _
   | exact ih2 _ _ _ _ _ _ _
   | exact LeO.none _
   | refine LeO.ite ?_ ?_
   | refine LeO.bind ?_ (fun _ => ?_)
  ·intro y0 y1 y2 y3 y4 y5 y6
   unfold taquinref07_Right.l0
   repeat' first
   | (with_reducible exact ih0 _ _ _ _ _ _)
   | (with_reducible exact ih1 _ _ _ _ _ _ _)
   | (with_reducible exact ih2 _ _ _ _ _ _ _)
   | (with_reducible exact LeO.refl _)
   | (with_reducible exact LeO.none _)
   | (with_reducible refine LeO.ite ?_ ?_)
   | (with_reducible refine LeO.bind ?_ (fun _ => ?_))
   | exact ih0 _ _ _ _ _ _
   | exact ih1 _ _ _ _ _ _ _
   | exact ih2 _ _ _ _ _ _ _
   | exact LeO.none _
   | refine LeO.ite ?_ ?_
   | refine LeO.bind ?_ (fun _ => ?_)
theorem taquinref07_Right.mono : ∀ a0 a1 a2 a3 a4 k, LeO (taquinref07_Right.f k a0 a1 a2 a3 a4) (taquinref07_Right.f (k + 1) a0 a1 a2 a3 a4) := by
 intro a0 a1 a2 a3 a4 k; obtain ⟨ih0, ih1, ih2⟩ := taquinref07_Right.mono_l k
 unfold taquinref07_Right.f
 repeat' first
   | (with_reducible exact ih0 _ _ _ _ _ _)
   | (with_reducible exact ih1 _ _ _ _ _ _ _)
   | (with_reducible exact ih2 _ _ _ _ _ _ _)
   | (with_reducible exact LeO.refl _)
   | (with_reducible exact LeO.none _)
   | (with_reducible refine LeO.ite ?_ ?_)
   | (with_reducible refine LeO.bind ?_ (fun _ => ?_))
   | exact ih0 _ _ _ _ _ _
   | exact ih1 _ _ _ _ _ _ _
   | exact ih2 _ _ _ _ _ _ _
   | exact LeO.none _
   | refine LeO.ite ?_ ?_
   | refine LeO.bind ?_ (fun _ => ?_)
set_option maxHeartbeats 8000000 in
set_option maxRecDepth 100000 in
theorem taquinref07_Right.calls (k : Nat) (a0_0 : Int) (a0_1 : Int) (a0_2 : Int) (A0_3 : Option Addr) (c0_3 : Nat) (l0_3 : List Int) (A0_4 : Option Addr) (c0_4 : Nat) (l0_4 : List Int) (r : Bool) (w : World) (hr0_3 : Kd.C (Kd.int .i64) w A0_3 l0_3.length l0_3) (hc0_3 : l0_3.length ≤ c0_3) (hr0_4 : Kd.C (Kd.int .i64) w A0_4 l0_4.length l0_4) (hc0_4 : l0_4.length ≤ c0_4) (h : taquinref07_Right.f k a0_0 a0_1 a0_2 l0_3 l0_4 = some r) :
  Calls Try.prog 25 #[.agg #[.int .i64 a0_0, .int .i64 a0_1, .int .i64 a0_2, .slice A0_3 l0_3.length c0_3, .slice A0_4 l0_4.length c0_4]] w fun e w' => e = .returned (.bool r) ∧ Below w.heap.size w w' := by
 have hu24 := Try.underlying24; have HR0_3 := ak hr0_3; have HC0_3 := ak hc0_3; clear hr0_3 hc0_3; have HR0_4 := ak hr0_4; have HC0_4 := ak hc0_4; clear hr0_4 hc0_4; have HB := ak (Below.refl w.heap.size w); have H : (if a0_0 < 1 then (taquinref07_Right.j0 k true a0_0 a0_1 a0_2 l0_3 l0_4) else (if a0_1 < 1 then (taquinref07_Right.j0 k true a0_0 a0_1 a0_2 l0_3 l0_4) else (if a0_2 < 1 then (taquinref07_Right.j0 k true a0_0 a0_1 a0_2 l0_3 l0_4) else (if a0_2 > 4 then (taquinref07_Right.j0 k true a0_0 a0_1 a0_2 l0_3 l0_4) else (if a0_0 > 4096 then (taquinref07_Right.j0 k true a0_0 a0_1 a0_2 l0_3 l0_4) else (taquinref07_Right.j0 k (decide (a0_1 > 4096)) a0_0 a0_1 a0_2 l0_3 l0_4)))))) = some r := h; clear h; have HC2 := ak H; clear H
 go_enter Try.func25, Try.ntmps25
 go_upto_region 1 with (first | ((with_reducible refine gate_dst (N := 1) rfl ?_); (try (refine gate_guard (by rfl) ?_; dsimp only)); refine box_event ?hg (N := 1) ?hd (cs := #[.int .i64 a0_0, .int .i64 a0_1, .int .i64 a0_2, .slice A0_3 l0_3.length c0_3, .slice A0_4 l0_4.length c0_4]) (t := 24) ?hr ?_; (case hd => rfl); (case hg => rfl); (case hr => first | (go_simp; done) | (go_simp; rfl)); intro gb202 hg w3 hbox hb; have BK202 := ak (hbox); have GW202 := gw_ hg HB.1.size; have GE202 := gw_ hg HB.1.size; replace HB := ak (below_step HB.1 hb); clear hb hbox hg))
 (try simp only [Act.put, List.setIfInBounds_toArray, List.set_cons_zero, List.set_cons_succ])
 go_cut [32] (fun v32 wc => ∃ (kq : Nat) (x32_1 : Bool), v32 = .bool x32_1 ∧ Aside0 (taquinref07_Right.j0 kq x32_1 a0_0 a0_1 a0_2 l0_3 l0_4 = some r) ∧ Aside0 (kq ≤ k) ∧ Aside0 (wc.heap[gb202]? = some (.cells #[.int .i64 a0_0, .int .i64 a0_1, .int .i64 a0_2, (.slice A0_3 l0_3.length c0_3), (.slice A0_4 l0_4.length c0_4)] 24 (0, 0))) ∧ Aside0 (Below w.heap.size w wc))
 case first =>
  have H := HC2.1; clear HC2
  by_cases c4 : a0_0 < 1
  ·rw [if_pos c4] at H; have c4b0 : decide (a0_0 < 1) = true := decide_eq_true c4; clear c4; (first | rw [c4b0] | (simp only [i64_w, i32_w]; rw [c4b0]) | skip); have H' := ak H; clear H; have hcz5_0 : w3.cell? ⟨gb202, 0, none⟩ = some (.int .i64 a0_0) := (blk_cell BK202.1 0).trans rfl; have hcz5_1 : w3.cell? ⟨gb202, 1, none⟩ = some (.int .i64 a0_1) := (blk_cell BK202.1 1).trans rfl; have hcz5_2 : w3.cell? ⟨gb202, 2, none⟩ = some (.int .i64 a0_2) := (blk_cell BK202.1 2).trans rfl; have hcz5_3 : w3.cell? ⟨gb202, 3, none⟩ = some (.slice A0_3 l0_3.length c0_3) := (blk_cell BK202.1 3).trans rfl; have hcz5_4 : w3.cell? ⟨gb202, 4, none⟩ = some (.slice A0_4 l0_4.length c0_4) := (blk_cell BK202.1 4).trans rfl; have hfz5_0 := blk_frozen BK202.1 0; have hfz5_1 := blk_frozen BK202.1 1; have hfz5_2 := blk_frozen BK202.1 2; have hfz5_3 := blk_frozen BK202.1 3; have hfz5_4 := blk_frozen BK202.1 4
   go_wp2
   go_meet
   case rel => exact ⟨_, (true), (rs_), H', ⟨by first | omega | exact Nat.le_refl _⟩, ⟨by (with_reducible repeat (first | refine blk_drewN ?_ _ | refine blk_drew ?_ | refine blk_alloc ?_ _)); exact BK202.1⟩, ⟨hq1_ HB.1 GE202.1⟩⟩
  ·rw [if_neg c4] at H; have c4b0 : decide (a0_0 < 1) = false := decide_eq_false c4; clear c4; (first | rw [c4b0] | (simp only [i64_w, i32_w]; rw [c4b0]) | skip)
   by_cases c6 : a0_1 < 1
   ·rw [if_pos c6] at H; have c6b0 : decide (a0_1 < 1) = true := decide_eq_true c6; clear c6; have H' := ak H; clear H; have hcz7_0 : w3.cell? ⟨gb202, 0, none⟩ = some (.int .i64 a0_0) := (blk_cell BK202.1 0).trans rfl; have hcz7_1 : w3.cell? ⟨gb202, 1, none⟩ = some (.int .i64 a0_1) := (blk_cell BK202.1 1).trans rfl; have hcz7_2 : w3.cell? ⟨gb202, 2, none⟩ = some (.int .i64 a0_2) := (blk_cell BK202.1 2).trans rfl; have hcz7_3 : w3.cell? ⟨gb202, 3, none⟩ = some (.slice A0_3 l0_3.length c0_3) := (blk_cell BK202.1 3).trans rfl; have hcz7_4 : w3.cell? ⟨gb202, 4, none⟩ = some (.slice A0_4 l0_4.length c0_4) := (blk_cell BK202.1 4).trans rfl; have hfz7_0 := blk_frozen BK202.1 0; have hfz7_1 := blk_frozen BK202.1 1; have hfz7_2 := blk_frozen BK202.1 2; have hfz7_3 := blk_frozen BK202.1 3; have hfz7_4 := blk_frozen BK202.1 4
    go_wp2
    go_meet
    case rel => exact ⟨_, (true), (rs_), H', ⟨by first | omega | exact Nat.le_refl _⟩, ⟨by (with_reducible repeat (first | refine blk_drewN ?_ _ | refine blk_drew ?_ | refine blk_alloc ?_ _)); exact BK202.1⟩, ⟨hq1_ HB.1 GE202.1⟩⟩
   ·rw [if_neg c6] at H; have c6b0 : decide (a0_1 < 1) = false := decide_eq_false c6; clear c6
    by_cases c8 : a0_2 < 1
    ·rw [if_pos c8] at H; have c8b0 : decide (a0_2 < 1) = true := decide_eq_true c8; clear c8; have H' := ak H; clear H; have hcz9_0 : w3.cell? ⟨gb202, 0, none⟩ = some (.int .i64 a0_0) := (blk_cell BK202.1 0).trans rfl; have hcz9_1 : w3.cell? ⟨gb202, 1, none⟩ = some (.int .i64 a0_1) := (blk_cell BK202.1 1).trans rfl; have hcz9_2 : w3.cell? ⟨gb202, 2, none⟩ = some (.int .i64 a0_2) := (blk_cell BK202.1 2).trans rfl; have hcz9_3 : w3.cell? ⟨gb202, 3, none⟩ = some (.slice A0_3 l0_3.length c0_3) := (blk_cell BK202.1 3).trans rfl; have hcz9_4 : w3.cell? ⟨gb202, 4, none⟩ = some (.slice A0_4 l0_4.length c0_4) := (blk_cell BK202.1 4).trans rfl; have hfz9_0 := blk_frozen BK202.1 0; have hfz9_1 := blk_frozen BK202.1 1; have hfz9_2 := blk_frozen BK202.1 2; have hfz9_3 := blk_frozen BK202.1 3; have hfz9_4 := blk_frozen BK202.1 4
     go_wp2
     go_meet
     case rel => exact ⟨_, (true), (rs_), H', ⟨by first | omega | exact Nat.le_refl _⟩, ⟨by (with_reducible repeat (first | refine blk_drewN ?_ _ | refine blk_drew ?_ | refine blk_alloc ?_ _)); exact BK202.1⟩, ⟨hq1_ HB.1 GE202.1⟩⟩
    ·rw [if_neg c8] at H; have c8b0 : decide (a0_2 < 1) = false := decide_eq_false c8; clear c8
     by_cases c10 : a0_2 > 4
     ·rw [if_pos c10] at H; have c10b0 : decide (4 < a0_2) = true := decide_eq_true c10; clear c10; have H' := ak H; clear H; have hcz11_0 : w3.cell? ⟨gb202, 0, none⟩ = some (.int .i64 a0_0) := (blk_cell BK202.1 0).trans rfl; have hcz11_1 : w3.cell? ⟨gb202, 1, none⟩ = some (.int .i64 a0_1) := (blk_cell BK202.1 1).trans rfl; have hcz11_2 : w3.cell? ⟨gb202, 2, none⟩ = some (.int .i64 a0_2) := (blk_cell BK202.1 2).trans rfl; have hcz11_3 : w3.cell? ⟨gb202, 3, none⟩ = some (.slice A0_3 l0_3.length c0_3) := (blk_cell BK202.1 3).trans rfl; have hcz11_4 : w3.cell? ⟨gb202, 4, none⟩ = some (.slice A0_4 l0_4.length c0_4) := (blk_cell BK202.1 4).trans rfl; have hfz11_0 := blk_frozen BK202.1 0; have hfz11_1 := blk_frozen BK202.1 1; have hfz11_2 := blk_frozen BK202.1 2; have hfz11_3 := blk_frozen BK202.1 3; have hfz11_4 := blk_frozen BK202.1 4
      go_wp2
      go_meet
      case rel => exact ⟨_, (true), (rs_), H', ⟨by first | omega | exact Nat.le_refl _⟩, ⟨by (with_reducible repeat (first | refine blk_drewN ?_ _ | refine blk_drew ?_ | refine blk_alloc ?_ _)); exact BK202.1⟩, ⟨hq1_ HB.1 GE202.1⟩⟩
     ·rw [if_neg c10] at H; have c10b0 : decide (4 < a0_2) = false := decide_eq_false c10; clear c10
      by_cases c12 : a0_0 > 4096
      ·rw [if_pos c12] at H; have c12b0 : decide (4096 < a0_0) = true := decide_eq_true c12; clear c12; have H' := ak H; clear H; have hcz13_0 : w3.cell? ⟨gb202, 0, none⟩ = some (.int .i64 a0_0) := (blk_cell BK202.1 0).trans rfl; have hcz13_1 : w3.cell? ⟨gb202, 1, none⟩ = some (.int .i64 a0_1) := (blk_cell BK202.1 1).trans rfl; have hcz13_2 : w3.cell? ⟨gb202, 2, none⟩ = some (.int .i64 a0_2) := (blk_cell BK202.1 2).trans rfl; have hcz13_3 : w3.cell? ⟨gb202, 3, none⟩ = some (.slice A0_3 l0_3.length c0_3) := (blk_cell BK202.1 3).trans rfl; have hcz13_4 : w3.cell? ⟨gb202, 4, none⟩ = some (.slice A0_4 l0_4.length c0_4) := (blk_cell BK202.1 4).trans rfl; have hfz13_0 := blk_frozen BK202.1 0; have hfz13_1 := blk_frozen BK202.1 1; have hfz13_2 := blk_frozen BK202.1 2; have hfz13_3 := blk_frozen BK202.1 3; have hfz13_4 := blk_frozen BK202.1 4
       go_wp2
       go_meet
       case rel => exact ⟨_, (true), (rs_), H', ⟨by first | omega | exact Nat.le_refl _⟩, ⟨by (with_reducible repeat (first | refine blk_drewN ?_ _ | refine blk_drew ?_ | refine blk_alloc ?_ _)); exact BK202.1⟩, ⟨hq1_ HB.1 GE202.1⟩⟩
      ·rw [if_neg c12] at H; have c12b0 : decide (4096 < a0_0) = false := decide_eq_false c12; clear c12; have H' := ak H; clear H; have hcz14_0 : w3.cell? ⟨gb202, 0, none⟩ = some (.int .i64 a0_0) := (blk_cell BK202.1 0).trans rfl; have hcz14_1 : w3.cell? ⟨gb202, 1, none⟩ = some (.int .i64 a0_1) := (blk_cell BK202.1 1).trans rfl; have hcz14_2 : w3.cell? ⟨gb202, 2, none⟩ = some (.int .i64 a0_2) := (blk_cell BK202.1 2).trans rfl; have hcz14_3 : w3.cell? ⟨gb202, 3, none⟩ = some (.slice A0_3 l0_3.length c0_3) := (blk_cell BK202.1 3).trans rfl; have hcz14_4 : w3.cell? ⟨gb202, 4, none⟩ = some (.slice A0_4 l0_4.length c0_4) := (blk_cell BK202.1 4).trans rfl; have hfz14_0 := blk_frozen BK202.1 0; have hfz14_1 := blk_frozen BK202.1 1; have hfz14_2 := blk_frozen BK202.1 2; have hfz14_3 := blk_frozen BK202.1 3; have hfz14_4 := blk_frozen BK202.1 4
       go_wp2
       go_meet
       case rel => exact ⟨_, (decide (a0_1 > 4096)), (rs_), H', ⟨by first | omega | exact Nat.le_refl _⟩, ⟨by (with_reducible repeat (first | refine blk_drewN ?_ _ | refine blk_drew ?_ | refine blk_alloc ?_ _)); exact BK202.1⟩, ⟨hq1_ HB.1 GE202.1⟩⟩
 case rest =>
  clear HC2; (try clear c1); (try clear c2); (try clear p2); (try clear c4); (try clear c4b0); (try clear c6); (try clear c6b0); (try clear c8); (try clear c8b0); (try clear c10); (try clear c10b0); (try clear c12); (try clear c12b0); (try clear hcz11_0); (try clear hcz11_1); (try clear hcz11_2); (try clear hcz11_3); (try clear hcz11_4); (try clear hcz13_0); (try clear hcz13_1); (try clear hcz13_2); (try clear hcz13_3); (try clear hcz13_4); (try clear hcz14_0); (try clear hcz14_1); (try clear hcz14_2); (try clear hcz14_3); (try clear hcz14_4); (try clear hcz5_0); (try clear hcz5_1); (try clear hcz5_2); (try clear hcz5_3); (try clear hcz5_4); (try clear hcz7_0); (try clear hcz7_1); (try clear hcz7_2); (try clear hcz7_3); (try clear hcz7_4); (try clear hcz9_0); (try clear hcz9_1); (try clear hcz9_2); (try clear hcz9_3); (try clear hcz9_4); (try clear hfz11_0); (try clear hfz11_1); (try clear hfz11_2); (try clear hfz11_3); (try clear hfz11_4); (try clear hfz13_0); (try clear hfz13_1); (try clear hfz13_2); (try clear hfz13_3); (try clear hfz13_4); (try clear hfz14_0); (try clear hfz14_1); (try clear hfz14_2); (try clear hfz14_3); (try clear hfz14_4); (try clear hfz5_0); (try clear hfz5_1); (try clear hfz5_2); (try clear hfz5_3); (try clear hfz5_4); (try clear hfz7_0); (try clear hfz7_1); (try clear hfz7_2); (try clear hfz7_3); (try clear hfz7_4); (try clear hfz9_0); (try clear hfz9_1); (try clear hfz9_2); (try clear hfz9_3); (try clear hfz9_4); obtain ⟨kq, x32_1, rfl, HA, HJ1, BK202, HB⟩ := hcut
  cases kq with
  | zero => exact absurd HA.1 (by simp [taquinref07_Right.j0])
  | succ kj1 =>
   have H := HA.1; clear HA; simp only [taquinref07_Right.j0] at H
   by_cases c15 : x32_1 = true
   ·subst c15
    have H1 : (some false) = some r := by rw [if_pos rfl] at H; exact H
    clear H; have H := H1; clear H1; obtain rfl := Option.some.inj H
    go_wp2
    go_ret
    exact ⟨er_, hq1_ HB.1 GE202.1⟩
   ·replace c15 := Bool.eq_false_iff.mpr c15; subst c15
    have H1 : (if (wrap64 ((wrap64 (a0_0 * a0_1)) * a0_2)) > 4096 then (taquinref07_Right.j1 kj1 (wrap64 ((wrap64 (a0_0 * a0_1)) * a0_2)) true a0_0 a0_1 a0_2 l0_3 l0_4) else (if (l0_3.length : Int) = (wrap64 ((wrap64 (a0_0 * a0_1)) * a0_2)) then (taquinref07_Right.j1 kj1 (wrap64 ((wrap64 (a0_0 * a0_1)) * a0_2)) ((l0_4.length : Int) != (wrap64 ((wrap64 (a0_0 * a0_1)) * a0_2))) a0_0 a0_1 a0_2 l0_3 l0_4) else (taquinref07_Right.j1 kj1 (wrap64 ((wrap64 (a0_0 * a0_1)) * a0_2)) true a0_0 a0_1 a0_2 l0_3 l0_4))) = some r := by rw [if_neg (show ¬ (false = true) by decide)] at H; exact H
    clear H; have H := H1; clear H1; have HC16 := ak H; clear H; have hcz17_0 : wc.cell? ⟨gb202, 0, none⟩ = some (.int .i64 a0_0) := (blk_cell BK202.1 0).trans rfl; have hcz17_1 : wc.cell? ⟨gb202, 1, none⟩ = some (.int .i64 a0_1) := (blk_cell BK202.1 1).trans rfl; have hcz17_2 : wc.cell? ⟨gb202, 2, none⟩ = some (.int .i64 a0_2) := (blk_cell BK202.1 2).trans rfl; have hcz17_3 : wc.cell? ⟨gb202, 3, none⟩ = some (.slice A0_3 l0_3.length c0_3) := (blk_cell BK202.1 3).trans rfl; have hcz17_4 : wc.cell? ⟨gb202, 4, none⟩ = some (.slice A0_4 l0_4.length c0_4) := (blk_cell BK202.1 4).trans rfl; have hfz17_0 := blk_frozen BK202.1 0; have hfz17_1 := blk_frozen BK202.1 1; have hfz17_2 := blk_frozen BK202.1 2; have hfz17_3 := blk_frozen BK202.1 3; have hfz17_4 := blk_frozen BK202.1 4
    go_upto_region 4 with (fail)
    go_cut [56] (fun v56 wc => ∃ (kq : Nat) (x56_15 : Bool), v56 = .bool x56_15 ∧ Aside0 (taquinref07_Right.j1 kq (wrap64 ((wrap64 (a0_0 * a0_1)) * a0_2)) x56_15 a0_0 a0_1 a0_2 l0_3 l0_4 = some r) ∧ Aside0 (kq ≤ kj1) ∧ Aside0 (wc.heap[gb202]? = some (.cells #[.int .i64 a0_0, .int .i64 a0_1, .int .i64 a0_2, (.slice A0_3 l0_3.length c0_3), (.slice A0_4 l0_4.length c0_4)] 24 (0, 0))) ∧ Aside0 (Below w.heap.size w wc))
    case first =>
     have H := HC16.1; clear HC16
     by_cases c18 : (wrap64 ((wrap64 (a0_0 * a0_1)) * a0_2)) > 4096
     ·rw [if_pos c18] at H; have c18b0 : decide (4096 < (wrap64 ((wrap64 (a0_0 * a0_1)) * a0_2))) = true := decide_eq_true c18; clear c18; (first | rw [c18b0] | (simp only [i64_w, i32_w]; rw [c18b0]) | skip); have H' := ak H; clear H
      go_wp2
      go_meet
      case rel => exact ⟨_, (true), (rs_), H', ⟨by have := HJ1.1; first | omega | exact Nat.le_refl _⟩, ⟨by (with_reducible repeat (first | refine blk_drewN ?_ _ | refine blk_drew ?_ | refine blk_alloc ?_ _)); exact BK202.1⟩, ⟨hq1_ HB.1 GE202.1⟩⟩
     ·rw [if_neg c18] at H; have c18b0 : decide (4096 < (wrap64 ((wrap64 (a0_0 * a0_1)) * a0_2))) = false := decide_eq_false c18; clear c18; (first | rw [c18b0] | (simp only [i64_w, i32_w]; rw [c18b0]) | skip)
      by_cases c19 : (l0_3.length : Int) = (wrap64 ((wrap64 (a0_0 * a0_1)) * a0_2))
      ·rw [if_pos c19] at H; have c19b0 : ((l0_3.length : Int) == (wrap64 ((wrap64 (a0_0 * a0_1)) * a0_2))) = true := beq_iff_eq.mpr c19; have c19b1 : ((l0_3.length : Int) != (wrap64 ((wrap64 (a0_0 * a0_1)) * a0_2))) = false := bne_eq_false_iff_eq.mpr c19; clear c19; have H' := ak H; clear H; have hcz20_0 : wc.cell? ⟨gb202, 0, none⟩ = some (.int .i64 a0_0) := (blk_cell BK202.1 0).trans rfl; have hcz20_1 : wc.cell? ⟨gb202, 1, none⟩ = some (.int .i64 a0_1) := (blk_cell BK202.1 1).trans rfl; have hcz20_2 : wc.cell? ⟨gb202, 2, none⟩ = some (.int .i64 a0_2) := (blk_cell BK202.1 2).trans rfl; have hcz20_3 : wc.cell? ⟨gb202, 3, none⟩ = some (.slice A0_3 l0_3.length c0_3) := (blk_cell BK202.1 3).trans rfl; have hcz20_4 : wc.cell? ⟨gb202, 4, none⟩ = some (.slice A0_4 l0_4.length c0_4) := (blk_cell BK202.1 4).trans rfl; have hfz20_0 := blk_frozen BK202.1 0; have hfz20_1 := blk_frozen BK202.1 1; have hfz20_2 := blk_frozen BK202.1 2; have hfz20_3 := blk_frozen BK202.1 3; have hfz20_4 := blk_frozen BK202.1 4
       go_wp2
       go_meet
       case rel => exact ⟨_, (((l0_4.length : Int) != (wrap64 ((wrap64 (a0_0 * a0_1)) * a0_2)))), (rs_), H', ⟨by have := HJ1.1; first | omega | exact Nat.le_refl _⟩, ⟨by (with_reducible repeat (first | refine blk_drewN ?_ _ | refine blk_drew ?_ | refine blk_alloc ?_ _)); exact BK202.1⟩, ⟨hq1_ HB.1 GE202.1⟩⟩
      ·rw [if_neg c19] at H; have c19b0 : ((l0_3.length : Int) == (wrap64 ((wrap64 (a0_0 * a0_1)) * a0_2))) = false := beq_eq_false_iff_ne.mpr c19; have c19b1 : ((l0_3.length : Int) != (wrap64 ((wrap64 (a0_0 * a0_1)) * a0_2))) = true := bne_iff_ne.mpr c19; have H' := ak H; clear H; have hcz21_0 : wc.cell? ⟨gb202, 0, none⟩ = some (.int .i64 a0_0) := (blk_cell BK202.1 0).trans rfl; have hcz21_1 : wc.cell? ⟨gb202, 1, none⟩ = some (.int .i64 a0_1) := (blk_cell BK202.1 1).trans rfl; have hcz21_2 : wc.cell? ⟨gb202, 2, none⟩ = some (.int .i64 a0_2) := (blk_cell BK202.1 2).trans rfl; have hcz21_3 : wc.cell? ⟨gb202, 3, none⟩ = some (.slice A0_3 l0_3.length c0_3) := (blk_cell BK202.1 3).trans rfl; have hcz21_4 : wc.cell? ⟨gb202, 4, none⟩ = some (.slice A0_4 l0_4.length c0_4) := (blk_cell BK202.1 4).trans rfl; have hfz21_0 := blk_frozen BK202.1 0; have hfz21_1 := blk_frozen BK202.1 1; have hfz21_2 := blk_frozen BK202.1 2; have hfz21_3 := blk_frozen BK202.1 3; have hfz21_4 := blk_frozen BK202.1 4
       go_wp2
       go_meet
       case rel => exact ⟨_, (true), (rs_), H', ⟨by have := HJ1.1; first | omega | exact Nat.le_refl _⟩, ⟨by (with_reducible repeat (first | refine blk_drewN ?_ _ | refine blk_drew ?_ | refine blk_alloc ?_ _)); exact BK202.1⟩, ⟨hq1_ HB.1 GE202.1⟩⟩
    case rest =>
     clear HC16; (try clear c1); (try clear c2); (try clear p2); (try clear c4); (try clear c4b0); (try clear c6); (try clear c6b0); (try clear p6); (try clear c8); (try clear c8b0); (try clear c10); (try clear c10b0); (try clear c12); (try clear c12b0); (try clear c15); (try clear c18); (try clear c18b0); (try clear c19); (try clear c19b0); (try clear c19b1); (try clear hcz11_0); (try clear hcz11_1); (try clear hcz11_2); (try clear hcz11_3); (try clear hcz11_4); (try clear hcz13_0); (try clear hcz13_1); (try clear hcz13_2); (try clear hcz13_3); (try clear hcz13_4); (try clear hcz14_0); (try clear hcz14_1); (try clear hcz14_2); (try clear hcz14_3); (try clear hcz14_4); (try clear hcz17_0); (try clear hcz17_1); (try clear hcz17_2); (try clear hcz17_3); (try clear hcz17_4); (try clear hcz20_0); (try clear hcz20_1); (try clear hcz20_2); (try clear hcz20_3); (try clear hcz20_4); (try clear hcz21_0); (try clear hcz21_1); (try clear hcz21_2); (try clear hcz21_3); (try clear hcz21_4); (try clear hcz5_0); (try clear hcz5_1); (try clear hcz5_2); (try clear hcz5_3); (try clear hcz5_4); (try clear hcz7_0); (try clear hcz7_1); (try clear hcz7_2); (try clear hcz7_3); (try clear hcz7_4); (try clear hcz9_0); (try clear hcz9_1); (try clear hcz9_2); (try clear hcz9_3); (try clear hcz9_4); (try clear hfz11_0); (try clear hfz11_1); (try clear hfz11_2); (try clear hfz11_3); (try clear hfz11_4); (try clear hfz13_0); (try clear hfz13_1); (try clear hfz13_2); (try clear hfz13_3); (try clear hfz13_4); (try clear hfz14_0); (try clear hfz14_1); (try clear hfz14_2); (try clear hfz14_3); (try clear hfz14_4); (try clear hfz17_0); (try clear hfz17_1); (try clear hfz17_2); (try clear hfz17_3); (try clear hfz17_4); (try clear hfz20_0); (try clear hfz20_1); (try clear hfz20_2); (try clear hfz20_3); (try clear hfz20_4); (try clear hfz21_0); (try clear hfz21_1); (try clear hfz21_2); (try clear hfz21_3); (try clear hfz21_4); (try clear hfz5_0); (try clear hfz5_1); (try clear hfz5_2); (try clear hfz5_3); (try clear hfz5_4); (try clear hfz7_0); (try clear hfz7_1); (try clear hfz7_2); (try clear hfz7_3); (try clear hfz7_4); (try clear hfz9_0); (try clear hfz9_1); (try clear hfz9_2); (try clear hfz9_3); (try clear hfz9_4); (try clear p2); obtain ⟨kq, x56_15, rfl, HA, HJ15, BK202, HB⟩ := hcut
     cases kq with
     | zero => exact absurd HA.1 (by simp [taquinref07_Right.j1])
     | succ kj15 =>
      have H := HA.1; clear HA; simp only [taquinref07_Right.j1] at H
      by_cases c22 : x56_15 = true
      ·subst c22
       have H1 : (some false) = some r := by rw [if_pos rfl] at H; exact H
       clear H; have H := H1; clear H1; obtain rfl := Option.some.inj H
       go_wp2
       go_ret
       exact ⟨er_, hq1_ HB.1 GE202.1⟩
      ·replace c22 := Bool.eq_false_iff.mpr c22; subst c22
       have H1 : (taquinref07_Right.l0 kj15 (wrap64 ((wrap64 (a0_0 * a0_1)) * a0_2)) 0 a0_0 a0_1 a0_2 l0_3 l0_4) = some r := by rw [if_neg (show ¬ (false = true) by decide)] at H; exact H
       clear H; have H := H1; clear H1; have H' := ak H; clear H
       go_wp2
       go_loopg [4] kj15 (fun kq v4 w' => ∃ (x4_3 : Int), v4 = .int .i64 x4_3 ∧ Aside0 (taquinref07_Right.l0 kq (wrap64 ((wrap64 (a0_0 * a0_1)) * a0_2)) x4_3 a0_0 a0_1 a0_2 l0_3 l0_4 = some r) ∧ Aside0 (kq ≤ kj15) ∧ Aside0 (w'.heap[gb202]? = some (.cells #[.int .i64 a0_0, .int .i64 a0_1, .int .i64 a0_2, (.slice A0_3 l0_3.length c0_3), (.slice A0_4 l0_4.length c0_4)] 24 (0, 0))) ∧ Aside0 (Below w.heap.size w w'))
       case atStart => exact ⟨(0), (rs_), H', ⟨Nat.le_refl _⟩, ⟨by (with_reducible repeat (first | refine blk_drewN ?_ _ | refine blk_drew ?_ | refine blk_alloc ?_ _)); exact BK202.1⟩, ⟨hq1_ HB.1 GE202.1⟩⟩
       case round =>
        clear H'; (try clear c1); (try clear c2); (try clear p2); (try clear c4); (try clear c4b0); (try clear c6); (try clear c6b0); (try clear p6); (try clear c8); (try clear c8b0); (try clear c10); (try clear c10b0); (try clear c12); (try clear c12b0); (try clear c15); (try clear c18); (try clear c18b0); (try clear c19); (try clear c19b0); (try clear c19b1); (try clear c22); (try clear hcz11_0); (try clear hcz11_1); (try clear hcz11_2); (try clear hcz11_3); (try clear hcz11_4); (try clear hcz13_0); (try clear hcz13_1); (try clear hcz13_2); (try clear hcz13_3); (try clear hcz13_4); (try clear hcz14_0); (try clear hcz14_1); (try clear hcz14_2); (try clear hcz14_3); (try clear hcz14_4); (try clear hcz17_0); (try clear hcz17_1); (try clear hcz17_2); (try clear hcz17_3); (try clear hcz17_4); (try clear hcz20_0); (try clear hcz20_1); (try clear hcz20_2); (try clear hcz20_3); (try clear hcz20_4); (try clear hcz21_0); (try clear hcz21_1); (try clear hcz21_2); (try clear hcz21_3); (try clear hcz21_4); (try clear hcz5_0); (try clear hcz5_1); (try clear hcz5_2); (try clear hcz5_3); (try clear hcz5_4); (try clear hcz7_0); (try clear hcz7_1); (try clear hcz7_2); (try clear hcz7_3); (try clear hcz7_4); (try clear hcz9_0); (try clear hcz9_1); (try clear hcz9_2); (try clear hcz9_3); (try clear hcz9_4); (try clear hfz11_0); (try clear hfz11_1); (try clear hfz11_2); (try clear hfz11_3); (try clear hfz11_4); (try clear hfz13_0); (try clear hfz13_1); (try clear hfz13_2); (try clear hfz13_3); (try clear hfz13_4); (try clear hfz14_0); (try clear hfz14_1); (try clear hfz14_2); (try clear hfz14_3); (try clear hfz14_4); (try clear hfz17_0); (try clear hfz17_1); (try clear hfz17_2); (try clear hfz17_3); (try clear hfz17_4); (try clear hfz20_0); (try clear hfz20_1); (try clear hfz20_2); (try clear hfz20_3); (try clear hfz20_4); (try clear hfz21_0); (try clear hfz21_1); (try clear hfz21_2); (try clear hfz21_3); (try clear hfz21_4); (try clear hfz5_0); (try clear hfz5_1); (try clear hfz5_2); (try clear hfz5_3); (try clear hfz5_4); (try clear hfz7_0); (try clear hfz7_1); (try clear hfz7_2); (try clear hfz7_3); (try clear hfz7_4); (try clear hfz9_0); (try clear hfz9_1); (try clear hfz9_2); (try clear hfz9_3); (try clear hfz9_4); (try clear p2); (try clear p6); obtain ⟨x4_3, rfl, HA, HK3, BK202, HB⟩ := hrel
        cases gk with
        | zero => exact absurd HA.1 (by simp [taquinref07_Right.l0])
        | succ k3 =>
         have H := HA.1; clear HA; simp only [taquinref07_Right.l0] at H
         by_cases c23 : x4_3 < (wrap64 ((wrap64 (a0_0 * a0_1)) * a0_2))
         ·rw [if_pos c23] at H; have c23b0 : decide (x4_3 < (wrap64 ((wrap64 (a0_0 * a0_1)) * a0_2))) = true := decide_eq_true c23; clear c23
          by_cases c24 : 0 ≤ x4_3
          ·rw [if_pos c24] at H; have c24b0 : decide (0 ≤ x4_3) = true := decide_eq_true c24; clear c24
           by_cases c25 : x4_3 < (l0_3.length : Int)
           ·rw [if_pos c25] at H; have c25b0 : decide (x4_3 < (l0_3.length : Int)) = true := decide_eq_true c25; clear c25
            by_cases c26 : (rd l0_3 x4_3) < 0
            ·rw [if_pos c26] at H; have c26b0 : decide ((rd l0_3 x4_3) < 0) = true := decide_eq_true c26; clear c26; obtain rfl := Option.some.inj H; have hcz27_0 : wr.cell? ⟨gb202, 0, none⟩ = some (.int .i64 a0_0) := (blk_cell BK202.1 0).trans rfl; have hcz27_1 : wr.cell? ⟨gb202, 1, none⟩ = some (.int .i64 a0_1) := (blk_cell BK202.1 1).trans rfl; have hcz27_2 : wr.cell? ⟨gb202, 2, none⟩ = some (.int .i64 a0_2) := (blk_cell BK202.1 2).trans rfl; have hcz27_3 : wr.cell? ⟨gb202, 3, none⟩ = some (.slice A0_3 l0_3.length c0_3) := (blk_cell BK202.1 3).trans rfl; have hcz27_4 : wr.cell? ⟨gb202, 4, none⟩ = some (.slice A0_4 l0_4.length c0_4) := (blk_cell BK202.1 4).trans rfl; have hfz27_0 := blk_frozen BK202.1 0; have hfz27_1 := blk_frozen BK202.1 1; have hfz27_2 := blk_frozen BK202.1 2; have hfz27_3 := blk_frozen BK202.1 3; have hfz27_4 := blk_frozen BK202.1 4; have p203 : 0 ≤ (x4_3 : Int) := of_decide_eq_true (as_); have q203 : x4_3 < (l0_3.length : Int) := of_decide_eq_true (as_); obtain ⟨ad203, e203, hx203_0⟩ := Kd.at_int HR0_3.1 x4_3 p203 q203
             cases e203
             replace hx203_0 := (HB.1.cell (World.block_lt_of_cell? w _ hx203_0)).trans hx203_0; replace p203 := eq_true p203; replace q203 := eq_true q203
             go_wp2
             go_ret
             exact ⟨er_, hq1_ HB.1 GE202.1⟩
            ·rw [if_neg c26] at H; have c26b0 : decide ((rd l0_3 x4_3) < 0) = false := decide_eq_false c26; clear c26
             by_cases c28 : (rd l0_3 x4_3) ≥ 7
             ·rw [if_pos c28] at H; have c28b0 : decide (7 ≤ (rd l0_3 x4_3)) = true := decide_eq_true c28; clear c28; obtain rfl := Option.some.inj H; have hcz29_0 : wr.cell? ⟨gb202, 0, none⟩ = some (.int .i64 a0_0) := (blk_cell BK202.1 0).trans rfl; have hcz29_1 : wr.cell? ⟨gb202, 1, none⟩ = some (.int .i64 a0_1) := (blk_cell BK202.1 1).trans rfl; have hcz29_2 : wr.cell? ⟨gb202, 2, none⟩ = some (.int .i64 a0_2) := (blk_cell BK202.1 2).trans rfl; have hcz29_3 : wr.cell? ⟨gb202, 3, none⟩ = some (.slice A0_3 l0_3.length c0_3) := (blk_cell BK202.1 3).trans rfl; have hcz29_4 : wr.cell? ⟨gb202, 4, none⟩ = some (.slice A0_4 l0_4.length c0_4) := (blk_cell BK202.1 4).trans rfl; have hfz29_0 := blk_frozen BK202.1 0; have hfz29_1 := blk_frozen BK202.1 1; have hfz29_2 := blk_frozen BK202.1 2; have hfz29_3 := blk_frozen BK202.1 3; have hfz29_4 := blk_frozen BK202.1 4; have p203 : 0 ≤ (x4_3 : Int) := of_decide_eq_true (as_); have q203 : x4_3 < (l0_3.length : Int) := of_decide_eq_true (as_); obtain ⟨ad203, e203, hx203_0⟩ := Kd.at_int HR0_3.1 x4_3 p203 q203
              cases e203
              replace hx203_0 := (HB.1.cell (World.block_lt_of_cell? w _ hx203_0)).trans hx203_0; replace p203 := eq_true p203; replace q203 := eq_true q203; have p204 : 0 ≤ (x4_3 : Int) := of_decide_eq_true (as_); have q204 : x4_3 < (l0_3.length : Int) := of_decide_eq_true (as_); obtain ⟨ad204, e204, hx204_0⟩ := Kd.at_int HR0_3.1 x4_3 p204 q204; obtain rfl : ad203 = ad204 := (by injection e204); replace hx204_0 := (HB.1.cell (World.block_lt_of_cell? w _ hx204_0)).trans hx204_0; replace p204 := eq_true p204; replace q204 := eq_true q204
              go_wp2
              go_ret
              exact ⟨er_, hq1_ HB.1 GE202.1⟩
             ·rw [if_neg c28] at H; have c28b0 : decide (7 ≤ (rd l0_3 x4_3)) = false := decide_eq_false c28; clear c28
              by_cases c30 : x4_3 < (l0_4.length : Int)
              ·rw [if_pos c30] at H; have c30b0 : decide (x4_3 < (l0_4.length : Int)) = true := decide_eq_true c30; clear c30
               by_cases c31 : (rd l0_4 x4_3) < 0
               ·rw [if_pos c31] at H; have c31b0 : decide ((rd l0_4 x4_3) < 0) = true := decide_eq_true c31; clear c31; obtain rfl := Option.some.inj H; have hcz32_0 : wr.cell? ⟨gb202, 0, none⟩ = some (.int .i64 a0_0) := (blk_cell BK202.1 0).trans rfl; have hcz32_1 : wr.cell? ⟨gb202, 1, none⟩ = some (.int .i64 a0_1) := (blk_cell BK202.1 1).trans rfl; have hcz32_2 : wr.cell? ⟨gb202, 2, none⟩ = some (.int .i64 a0_2) := (blk_cell BK202.1 2).trans rfl; have hcz32_3 : wr.cell? ⟨gb202, 3, none⟩ = some (.slice A0_3 l0_3.length c0_3) := (blk_cell BK202.1 3).trans rfl; have hcz32_4 : wr.cell? ⟨gb202, 4, none⟩ = some (.slice A0_4 l0_4.length c0_4) := (blk_cell BK202.1 4).trans rfl; have hfz32_0 := blk_frozen BK202.1 0; have hfz32_1 := blk_frozen BK202.1 1; have hfz32_2 := blk_frozen BK202.1 2; have hfz32_3 := blk_frozen BK202.1 3; have hfz32_4 := blk_frozen BK202.1 4; have p203 : 0 ≤ (x4_3 : Int) := of_decide_eq_true (as_); have q203 : x4_3 < (l0_3.length : Int) := of_decide_eq_true (as_); obtain ⟨ad203, e203, hx203_0⟩ := Kd.at_int HR0_3.1 x4_3 p203 q203
                cases e203
                replace hx203_0 := (HB.1.cell (World.block_lt_of_cell? w _ hx203_0)).trans hx203_0; replace p203 := eq_true p203; replace q203 := eq_true q203; have p204 : 0 ≤ (x4_3 : Int) := of_decide_eq_true (as_); have q204 : x4_3 < (l0_3.length : Int) := of_decide_eq_true (as_); obtain ⟨ad204, e204, hx204_0⟩ := Kd.at_int HR0_3.1 x4_3 p204 q204; obtain rfl : ad203 = ad204 := (by injection e204); replace hx204_0 := (HB.1.cell (World.block_lt_of_cell? w _ hx204_0)).trans hx204_0; replace p204 := eq_true p204; replace q204 := eq_true q204; have p205 : 0 ≤ (x4_3 : Int) := of_decide_eq_true (as_); have q205 : x4_3 < (l0_4.length : Int) := of_decide_eq_true (as_); obtain ⟨ad205, e205, hx205_0⟩ := Kd.at_int HR0_4.1 x4_3 p205 q205
                cases e205
                replace hx205_0 := (HB.1.cell (World.block_lt_of_cell? w _ hx205_0)).trans hx205_0; replace p205 := eq_true p205; replace q205 := eq_true q205
                go_wp2
                go_ret
                exact ⟨er_, hq1_ HB.1 GE202.1⟩
               ·rw [if_neg c31] at H; have c31b0 : decide ((rd l0_4 x4_3) < 0) = false := decide_eq_false c31; clear c31
                by_cases c33 : (rd l0_4 x4_3) > 63
                ·rw [if_pos c33] at H; have c33b0 : decide (63 < (rd l0_4 x4_3)) = true := decide_eq_true c33; clear c33; obtain rfl := Option.some.inj H; have hcz34_0 : wr.cell? ⟨gb202, 0, none⟩ = some (.int .i64 a0_0) := (blk_cell BK202.1 0).trans rfl; have hcz34_1 : wr.cell? ⟨gb202, 1, none⟩ = some (.int .i64 a0_1) := (blk_cell BK202.1 1).trans rfl; have hcz34_2 : wr.cell? ⟨gb202, 2, none⟩ = some (.int .i64 a0_2) := (blk_cell BK202.1 2).trans rfl; have hcz34_3 : wr.cell? ⟨gb202, 3, none⟩ = some (.slice A0_3 l0_3.length c0_3) := (blk_cell BK202.1 3).trans rfl; have hcz34_4 : wr.cell? ⟨gb202, 4, none⟩ = some (.slice A0_4 l0_4.length c0_4) := (blk_cell BK202.1 4).trans rfl; have hfz34_0 := blk_frozen BK202.1 0; have hfz34_1 := blk_frozen BK202.1 1; have hfz34_2 := blk_frozen BK202.1 2; have hfz34_3 := blk_frozen BK202.1 3; have hfz34_4 := blk_frozen BK202.1 4; have p203 : 0 ≤ (x4_3 : Int) := of_decide_eq_true (as_); have q203 : x4_3 < (l0_3.length : Int) := of_decide_eq_true (as_); obtain ⟨ad203, e203, hx203_0⟩ := Kd.at_int HR0_3.1 x4_3 p203 q203
                 cases e203
                 replace hx203_0 := (HB.1.cell (World.block_lt_of_cell? w _ hx203_0)).trans hx203_0; replace p203 := eq_true p203; replace q203 := eq_true q203; have p204 : 0 ≤ (x4_3 : Int) := of_decide_eq_true (as_); have q204 : x4_3 < (l0_3.length : Int) := of_decide_eq_true (as_); obtain ⟨ad204, e204, hx204_0⟩ := Kd.at_int HR0_3.1 x4_3 p204 q204; obtain rfl : ad203 = ad204 := (by injection e204); replace hx204_0 := (HB.1.cell (World.block_lt_of_cell? w _ hx204_0)).trans hx204_0; replace p204 := eq_true p204; replace q204 := eq_true q204; have p205 : 0 ≤ (x4_3 : Int) := of_decide_eq_true (as_); have q205 : x4_3 < (l0_4.length : Int) := of_decide_eq_true (as_); obtain ⟨ad205, e205, hx205_0⟩ := Kd.at_int HR0_4.1 x4_3 p205 q205
                 cases e205
                 replace hx205_0 := (HB.1.cell (World.block_lt_of_cell? w _ hx205_0)).trans hx205_0; replace p205 := eq_true p205; replace q205 := eq_true q205; have p206 : 0 ≤ (x4_3 : Int) := of_decide_eq_true (as_); have q206 : x4_3 < (l0_4.length : Int) := of_decide_eq_true (as_); obtain ⟨ad206, e206, hx206_0⟩ := Kd.at_int HR0_4.1 x4_3 p206 q206; obtain rfl : ad205 = ad206 := (by injection e206); replace hx206_0 := (HB.1.cell (World.block_lt_of_cell? w _ hx206_0)).trans hx206_0; replace p206 := eq_true p206; replace q206 := eq_true q206
                 go_wp2
                 go_ret
                 exact ⟨er_, hq1_ HB.1 GE202.1⟩
                ·rw [if_neg c33] at H; have c33b0 : decide (63 < (rd l0_4 x4_3)) = false := decide_eq_false c33; clear c33; have H' := ak H; clear H; have hcz35_0 : wr.cell? ⟨gb202, 0, none⟩ = some (.int .i64 a0_0) := (blk_cell BK202.1 0).trans rfl; have hcz35_1 : wr.cell? ⟨gb202, 1, none⟩ = some (.int .i64 a0_1) := (blk_cell BK202.1 1).trans rfl; have hcz35_2 : wr.cell? ⟨gb202, 2, none⟩ = some (.int .i64 a0_2) := (blk_cell BK202.1 2).trans rfl; have hcz35_3 : wr.cell? ⟨gb202, 3, none⟩ = some (.slice A0_3 l0_3.length c0_3) := (blk_cell BK202.1 3).trans rfl; have hcz35_4 : wr.cell? ⟨gb202, 4, none⟩ = some (.slice A0_4 l0_4.length c0_4) := (blk_cell BK202.1 4).trans rfl; have hfz35_0 := blk_frozen BK202.1 0; have hfz35_1 := blk_frozen BK202.1 1; have hfz35_2 := blk_frozen BK202.1 2; have hfz35_3 := blk_frozen BK202.1 3; have hfz35_4 := blk_frozen BK202.1 4; have p203 : 0 ≤ (x4_3 : Int) := of_decide_eq_true (as_); have q203 : x4_3 < (l0_3.length : Int) := of_decide_eq_true (as_); obtain ⟨ad203, e203, hx203_0⟩ := Kd.at_int HR0_3.1 x4_3 p203 q203
                 cases e203
                 replace hx203_0 := (HB.1.cell (World.block_lt_of_cell? w _ hx203_0)).trans hx203_0; replace p203 := eq_true p203; replace q203 := eq_true q203; have p204 : 0 ≤ (x4_3 : Int) := of_decide_eq_true (as_); have q204 : x4_3 < (l0_3.length : Int) := of_decide_eq_true (as_); obtain ⟨ad204, e204, hx204_0⟩ := Kd.at_int HR0_3.1 x4_3 p204 q204; obtain rfl : ad203 = ad204 := (by injection e204); replace hx204_0 := (HB.1.cell (World.block_lt_of_cell? w _ hx204_0)).trans hx204_0; replace p204 := eq_true p204; replace q204 := eq_true q204; have p205 : 0 ≤ (x4_3 : Int) := of_decide_eq_true (as_); have q205 : x4_3 < (l0_4.length : Int) := of_decide_eq_true (as_); obtain ⟨ad205, e205, hx205_0⟩ := Kd.at_int HR0_4.1 x4_3 p205 q205
                 cases e205
                 replace hx205_0 := (HB.1.cell (World.block_lt_of_cell? w _ hx205_0)).trans hx205_0; replace p205 := eq_true p205; replace q205 := eq_true q205; have p206 : 0 ≤ (x4_3 : Int) := of_decide_eq_true (as_); have q206 : x4_3 < (l0_4.length : Int) := of_decide_eq_true (as_); obtain ⟨ad206, e206, hx206_0⟩ := Kd.at_int HR0_4.1 x4_3 p206 q206; obtain rfl : ad205 = ad206 := (by injection e206); replace hx206_0 := (HB.1.cell (World.block_lt_of_cell? w _ hx206_0)).trans hx206_0; replace p206 := eq_true p206; replace q206 := eq_true q206
                 go_wp2
                 go_roundg k3
                 case measure => have := HJ1.1; have := HJ15.1; have := HK3.1; omega
                 case rel => exact ⟨(wrap64 (x4_3 + 1)), (rs_), H', ⟨by have := HJ1.1; have := HJ15.1; have := HK3.1; omega⟩, ⟨by (with_reducible repeat (first | refine blk_drewN ?_ _ | refine blk_drew ?_ | refine blk_alloc ?_ _)); exact BK202.1⟩, ⟨hq1_ HB.1 GE202.1⟩⟩
              ·rw [if_neg c30] at H; exact absurd H (by simp)
           ·rw [if_neg c25] at H; exact absurd H (by simp)
          ·rw [if_neg c24] at H; exact absurd H (by simp)
         ·rw [if_neg c23] at H; have c23b0 : decide (x4_3 < (wrap64 ((wrap64 (a0_0 * a0_1)) * a0_2))) = false := decide_eq_false c23; clear c23; obtain rfl := Option.some.inj H
          go_wp2
          go_ret
          exact ⟨er_, hq1_ HB.1 GE202.1⟩
def taquinref08_Right.l0 : Nat → List Int → Int → Option (Bool)
 | 0, _, _ => none
 | k + 1, x0, x3 => if x3 < (x0.length : Int) then (if 0 ≤ x3 then (if (rd x0 x3) < 0 then (some false) else (if (rd x0 x3) ≥ 4096 then (some false) else (if x3 > 0 then (if 0 ≤ (mx (wrap64 (x3 - 1)) 0) then (if (mx (wrap64 (x3 - 1)) 0) < (x0.length : Int) then (if (rd x0 (mx (wrap64 (x3 - 1)) 0)) ≥ (rd x0 x3) then (some false) else (taquinref08_Right.l0 k x0 (wrap64 (x3 + 1)))) else (none)) else (none)) else (taquinref08_Right.l0 k x0 (wrap64 (x3 + 1)))))) else (none)) else (some true)
def taquinref08_Right.f (k : Nat) (l0 : List Int) : Option (Bool) := taquinref08_Right.l0 k l0 0
theorem taquinref08_Right.mono_l : ∀ k, (∀ y0 y1, LeO (taquinref08_Right.l0 k y0 y1) (taquinref08_Right.l0 (k + 1) y0 y1))
 | 0 => fun _ _ r h => by simp [taquinref08_Right.l0] at h
 | k + 1 => by
  have ih0 := taquinref08_Right.mono_l k
  ·intro y0 y1
   unfold taquinref08_Right.l0
   repeat' first
   | (with_reducible exact ih0 _ _)
   | (with_reducible exact LeO.refl _)
   | (with_reducible exact LeO.none _)
   | (with_reducible refine LeO.ite ?_ ?_)
   | (with_reducible refine LeO.bind ?_ (fun _ => ?_))
   | exact ih0 _ _
   | exact LeO.none _
   | refine LeO.ite ?_ ?_
   | refine LeO.bind ?_ (fun _ => ?_)
theorem taquinref08_Right.mono : ∀ a0 k, LeO (taquinref08_Right.f k a0) (taquinref08_Right.f (k + 1) a0) := by
 intro a0 k; have ih0 := taquinref08_Right.mono_l k
 unfold taquinref08_Right.f
 repeat' first
   | (with_reducible exact ih0 _ _)
   | (with_reducible exact LeO.refl _)
   | (with_reducible exact LeO.none _)
   | (with_reducible refine LeO.ite ?_ ?_)
   | (with_reducible refine LeO.bind ?_ (fun _ => ?_))
   | exact ih0 _ _
   | exact LeO.none _
   | refine LeO.ite ?_ ?_
   | refine LeO.bind ?_ (fun _ => ?_)
set_option maxHeartbeats 8000000 in
set_option maxRecDepth 100000 in
theorem taquinref08_Right.calls (k : Nat) (A0 : Option Addr) (c0 : Nat) (l0 : List Int) (r : Bool) (w : World) (hr0 : Kd.C (Kd.int .i64) w A0 l0.length l0) (hc0 : l0.length ≤ c0) (h : taquinref08_Right.f k l0 = some r) :
  Calls Try.prog 26 #[.slice A0 l0.length c0] w fun e w' => e = .returned (.bool r) ∧ Below w.heap.size w w' := by
 have HR0 := ak hr0; have HC0 := ak hc0; clear hr0 hc0; have HB := ak (Below.refl w.heap.size w); have H : (taquinref08_Right.l0 k l0 0) = some r := h; clear h; have H' := ak H; clear H
 go_enter Try.func26, Try.ntmps26
 go_wp2
 repeat (go_quiet (fail); try go_wp2)
 go_loopg [3] k (fun kq v3 w' => ∃ (x3_1 : Int), v3 = .int .i64 x3_1 ∧ Aside0 (taquinref08_Right.l0 kq l0 x3_1 = some r) ∧ Aside0 (kq ≤ k) ∧ Aside0 (Below w.heap.size w w'))
 case atStart => exact ⟨(0), (rs_), H', ⟨Nat.le_refl _⟩, ⟨hq0_ HB.1⟩⟩
 case round =>
  clear H'; obtain ⟨x3_1, rfl, HA, HK1, HB⟩ := hrel
  cases gk with
  | zero => exact absurd HA.1 (by simp [taquinref08_Right.l0])
  | succ k1 =>
   have H := HA.1; clear HA; simp only [taquinref08_Right.l0] at H
   by_cases c2 : x3_1 < (l0.length : Int)
   ·rw [if_pos c2] at H; have c2b0 : decide (x3_1 < (l0.length : Int)) = true := decide_eq_true c2; clear c2
    by_cases c3 : 0 ≤ x3_1
    ·rw [if_pos c3] at H; have c3b0 : decide (0 ≤ x3_1) = true := decide_eq_true c3; clear c3
     by_cases c4 : (rd l0 x3_1) < 0
     ·rw [if_pos c4] at H; have c4b0 : decide ((rd l0 x3_1) < 0) = true := decide_eq_true c4; clear c4; obtain rfl := Option.some.inj H; have p207 : 0 ≤ (x3_1 : Int) := of_decide_eq_true (as_); have q207 : x3_1 < (l0.length : Int) := of_decide_eq_true (as_); obtain ⟨ad207, e207, hx207_0⟩ := Kd.at_int HR0.1 x3_1 p207 q207
      cases e207
      replace hx207_0 := (HB.1.cell (World.block_lt_of_cell? w _ hx207_0)).trans hx207_0; replace p207 := eq_true p207; replace q207 := eq_true q207
      go_wp2
      repeat (go_quiet (fail); try go_wp2)
      go_ret
      exact ⟨er_, hq0_ HB.1⟩
     ·rw [if_neg c4] at H; have c4b0 : decide ((rd l0 x3_1) < 0) = false := decide_eq_false c4; clear c4
      by_cases c5 : (rd l0 x3_1) ≥ 4096
      ·rw [if_pos c5] at H; have c5b0 : decide (4096 ≤ (rd l0 x3_1)) = true := decide_eq_true c5; clear c5; obtain rfl := Option.some.inj H; have p207 : 0 ≤ (x3_1 : Int) := of_decide_eq_true (as_); have q207 : x3_1 < (l0.length : Int) := of_decide_eq_true (as_); obtain ⟨ad207, e207, hx207_0⟩ := Kd.at_int HR0.1 x3_1 p207 q207
       cases e207
       replace hx207_0 := (HB.1.cell (World.block_lt_of_cell? w _ hx207_0)).trans hx207_0; replace p207 := eq_true p207; replace q207 := eq_true q207; have p208 : 0 ≤ (x3_1 : Int) := of_decide_eq_true (as_); have q208 : x3_1 < (l0.length : Int) := of_decide_eq_true (as_); obtain ⟨ad208, e208, hx208_0⟩ := Kd.at_int HR0.1 x3_1 p208 q208; obtain rfl : ad207 = ad208 := (by injection e208); replace hx208_0 := (HB.1.cell (World.block_lt_of_cell? w _ hx208_0)).trans hx208_0; replace p208 := eq_true p208; replace q208 := eq_true q208
       go_wp2
       repeat (go_quiet (fail); try go_wp2)
       go_ret
       exact ⟨er_, hq0_ HB.1⟩
      ·rw [if_neg c5] at H; have c5b0 : decide (4096 ≤ (rd l0 x3_1)) = false := decide_eq_false c5; clear c5
       by_cases c6 : x3_1 > 0
       ·rw [if_pos c6] at H; have c6b0 : decide (0 < x3_1) = true := decide_eq_true c6; clear c6; obtain ⟨ji7, hji7⟩ : ∃ j_ : Int, (mx (wrap64 (x3_1 - 1)) 0) = j_ := ⟨_, rfl⟩
        replace H : (if 0 ≤ (ji7) then (if (ji7) < (l0.length : Int) then (if (rd l0 (ji7)) ≥ (rd l0 x3_1) then (some false) else (taquinref08_Right.l0 k1 l0 (wrap64 (x3_1 + 1)))) else (none)) else (none)) = some r := by first | (rw [hji7] at H; exact H) | (simp only [hji7] at H ⊢; exact H)
        have hji7_ : (if (wrap64 (x3_1 - 1)) < 0 then 0 else (wrap64 (x3_1 - 1))) = ji7 := hji7
        by_cases c8 : 0 ≤ (ji7)
        ·rw [if_pos c8] at H; have c8b0 : decide (0 ≤ (ji7)) = true := decide_eq_true c8; clear c8
         by_cases c9 : (ji7) < (l0.length : Int)
         ·rw [if_pos c9] at H; have c9b0 : decide ((ji7) < (l0.length : Int)) = true := decide_eq_true c9; clear c9
          by_cases c10 : (rd l0 (ji7)) ≥ (rd l0 x3_1)
          ·rw [if_pos c10] at H; have c10b0 : decide ((rd l0 x3_1) ≤ (rd l0 (ji7))) = true := decide_eq_true c10; clear c10; obtain rfl := Option.some.inj H; have p207 : 0 ≤ (x3_1 : Int) := of_decide_eq_true (as_); have q207 : x3_1 < (l0.length : Int) := of_decide_eq_true (as_); obtain ⟨ad207, e207, hx207_0⟩ := Kd.at_int HR0.1 x3_1 p207 q207
           cases e207
           replace hx207_0 := (HB.1.cell (World.block_lt_of_cell? w _ hx207_0)).trans hx207_0; replace p207 := eq_true p207; replace q207 := eq_true q207; have p208 : 0 ≤ (x3_1 : Int) := of_decide_eq_true (as_); have q208 : x3_1 < (l0.length : Int) := of_decide_eq_true (as_); obtain ⟨ad208, e208, hx208_0⟩ := Kd.at_int HR0.1 x3_1 p208 q208; obtain rfl : ad207 = ad208 := (by injection e208); replace hx208_0 := (HB.1.cell (World.block_lt_of_cell? w _ hx208_0)).trans hx208_0; replace p208 := eq_true p208; replace q208 := eq_true q208; have p209 : 0 ≤ ((ji7) : Int) := of_decide_eq_true (as_); have q209 : (ji7) < (l0.length : Int) := of_decide_eq_true (as_); obtain ⟨ad209, e209, hx209_0⟩ := Kd.at_int HR0.1 (ji7) p209 q209; obtain rfl : ad207 = ad209 := (by injection e209); replace hx209_0 := (HB.1.cell (World.block_lt_of_cell? w _ hx209_0)).trans hx209_0; replace p209 := eq_true p209; replace q209 := eq_true q209; have p210 : 0 ≤ (x3_1 : Int) := of_decide_eq_true (as_); have q210 : x3_1 < (l0.length : Int) := of_decide_eq_true (as_); obtain ⟨ad210, e210, hx210_0⟩ := Kd.at_int HR0.1 x3_1 p210 q210; obtain rfl : ad207 = ad210 := (by injection e210); replace hx210_0 := (HB.1.cell (World.block_lt_of_cell? w _ hx210_0)).trans hx210_0; replace p210 := eq_true p210; replace q210 := eq_true q210
           go_wp2
           repeat (go_quiet (fail); try go_wp2)
           go_ret
           exact ⟨by first | rfl | (simp [errW_none, errW_some] <;> rfl) | (simp only [← hji7]; first | rfl | (simp [errW_none, errW_some] <;> rfl)) | (simp [*, errW_none, errW_some] <;> rfl), hq0_ HB.1⟩
          ·rw [if_neg c10] at H; have c10b0 : decide ((rd l0 x3_1) ≤ (rd l0 (ji7))) = false := decide_eq_false c10; clear c10; have H' := ak H; clear H; have p207 : 0 ≤ (x3_1 : Int) := of_decide_eq_true (as_); have q207 : x3_1 < (l0.length : Int) := of_decide_eq_true (as_); obtain ⟨ad207, e207, hx207_0⟩ := Kd.at_int HR0.1 x3_1 p207 q207
           cases e207
           replace hx207_0 := (HB.1.cell (World.block_lt_of_cell? w _ hx207_0)).trans hx207_0; replace p207 := eq_true p207; replace q207 := eq_true q207; have p208 : 0 ≤ (x3_1 : Int) := of_decide_eq_true (as_); have q208 : x3_1 < (l0.length : Int) := of_decide_eq_true (as_); obtain ⟨ad208, e208, hx208_0⟩ := Kd.at_int HR0.1 x3_1 p208 q208; obtain rfl : ad207 = ad208 := (by injection e208); replace hx208_0 := (HB.1.cell (World.block_lt_of_cell? w _ hx208_0)).trans hx208_0; replace p208 := eq_true p208; replace q208 := eq_true q208; have p209 : 0 ≤ ((ji7) : Int) := of_decide_eq_true (as_); have q209 : (ji7) < (l0.length : Int) := of_decide_eq_true (as_); obtain ⟨ad209, e209, hx209_0⟩ := Kd.at_int HR0.1 (ji7) p209 q209; obtain rfl : ad207 = ad209 := (by injection e209); replace hx209_0 := (HB.1.cell (World.block_lt_of_cell? w _ hx209_0)).trans hx209_0; replace p209 := eq_true p209; replace q209 := eq_true q209; have p210 : 0 ≤ (x3_1 : Int) := of_decide_eq_true (as_); have q210 : x3_1 < (l0.length : Int) := of_decide_eq_true (as_); obtain ⟨ad210, e210, hx210_0⟩ := Kd.at_int HR0.1 x3_1 p210 q210; obtain rfl : ad207 = ad210 := (by injection e210); replace hx210_0 := (HB.1.cell (World.block_lt_of_cell? w _ hx210_0)).trans hx210_0; replace p210 := eq_true p210; replace q210 := eq_true q210
           go_wp2
           repeat (go_quiet (fail); try go_wp2)
           go_roundg k1
           case measure => have := HK1.1; omega
           case rel => exact ⟨(wrap64 (x3_1 + 1)), (rs_), H', ⟨by have := HK1.1; omega⟩, ⟨hq0_ HB.1⟩⟩
         ·rw [if_neg c9] at H; exact absurd H (by simp)
        ·rw [if_neg c8] at H; exact absurd H (by simp)
       ·rw [if_neg c6] at H; have c6b0 : decide (0 < x3_1) = false := decide_eq_false c6; clear c6; have H' := ak H; clear H; have p207 : 0 ≤ (x3_1 : Int) := of_decide_eq_true (as_); have q207 : x3_1 < (l0.length : Int) := of_decide_eq_true (as_); obtain ⟨ad207, e207, hx207_0⟩ := Kd.at_int HR0.1 x3_1 p207 q207
        cases e207
        replace hx207_0 := (HB.1.cell (World.block_lt_of_cell? w _ hx207_0)).trans hx207_0; replace p207 := eq_true p207; replace q207 := eq_true q207; have p208 : 0 ≤ (x3_1 : Int) := of_decide_eq_true (as_); have q208 : x3_1 < (l0.length : Int) := of_decide_eq_true (as_); obtain ⟨ad208, e208, hx208_0⟩ := Kd.at_int HR0.1 x3_1 p208 q208; obtain rfl : ad207 = ad208 := (by injection e208); replace hx208_0 := (HB.1.cell (World.block_lt_of_cell? w _ hx208_0)).trans hx208_0; replace p208 := eq_true p208; replace q208 := eq_true q208
        go_wp2
        repeat (go_quiet (fail); try go_wp2)
        go_roundg k1
        case measure => have := HK1.1; omega
        case rel => exact ⟨(wrap64 (x3_1 + 1)), (rs_), H', ⟨by have := HK1.1; omega⟩, ⟨hq0_ HB.1⟩⟩
    ·rw [if_neg c3] at H; exact absurd H (by simp)
   ·rw [if_neg c2] at H; have c2b0 : decide (x3_1 < (l0.length : Int)) = false := decide_eq_false c2; clear c2; obtain rfl := Option.some.inj H
    go_wp2
    repeat (go_quiet (fail); try go_wp2)
    go_ret
    exact ⟨er_, hq0_ HB.1⟩
def taquinref25_Right.f (l0_0 : List Bool) (a0_1 : Int) : Option (Bool) := if (l0_0.length : Int) < 1 then (some false) else (if (l0_0.length : Int) > 24 then (some false) else (if a0_1 < 0 then (some false) else (if a0_1 ≥ (l0_0.length : Int) then (some false) else (if 0 ≤ a0_1 then (if a0_1 < (l0_0.length : Int) then (some (rdOf false l0_0 a0_1)) else (none)) else (none)))))
set_option maxHeartbeats 8000000 in
set_option maxRecDepth 100000 in
theorem taquinref25_Right.calls (A0_0 : Option Addr) (c0_0 : Nat) (l0_0 : List Bool) (a0_1 : Int) (r : Bool) (w : World) (hr0_0 : Kd.C Kd.bool w A0_0 l0_0.length l0_0) (hc0_0 : l0_0.length ≤ c0_0) (h : taquinref25_Right.f l0_0 a0_1 = some r) :
  Calls Try.prog 54 #[.agg #[.slice A0_0 l0_0.length c0_0, .int .i64 a0_1]] w fun e w' => e = .returned (.bool r) ∧ Below w.heap.size w w' := by
 have hu27 := Try.underlying27; have HR0_0 := ak hr0_0; have HC0_0 := ak hc0_0; clear hr0_0 hc0_0; have HB := ak (Below.refl w.heap.size w); have H : (if (l0_0.length : Int) < 1 then (some false) else (if (l0_0.length : Int) > 24 then (some false) else (if a0_1 < 0 then (some false) else (if a0_1 ≥ (l0_0.length : Int) then (some false) else (if 0 ≤ a0_1 then (if a0_1 < (l0_0.length : Int) then (some (rdOf false l0_0 a0_1)) else (none)) else (none)))))) = some r := h; clear h
 by_cases c2 : (l0_0.length : Int) < 1
 ·rw [if_pos c2] at H; have c2b0 : decide ((l0_0.length : Int) < 1) = true := decide_eq_true c2; have c2b1 : decide (l0_0.length < 1) = true := decide_eq_true (by omega); clear c2; obtain rfl := Option.some.inj H
  go_enter Try.func54, Try.ntmps54
  go_wp2_with (first | ((with_reducible refine gate_dst (N := 1) rfl ?_); (try (refine gate_guard (by rfl) ?_; dsimp only)); refine box_event ?hg (N := 1) ?hd (cs := #[.slice A0_0 l0_0.length c0_0, .int .i64 a0_1]) (t := 27) ?hr ?_; (case hd => rfl); (case hg => rfl); (case hr => first | (go_simp; done) | (go_simp; rfl)); intro gb253 hg w3 hbox hb; have BK253 := ak (hbox); have GW253 := gw_ hg HB.1.size; have GE253 := gw_ hg HB.1.size; replace HB := ak (below_step HB.1 hb); clear hb hbox hg; obtain ⟨hcz4_0, hcz4_1, hfz4_0, hfz4_1⟩ := bk2 BK253.1))
  go_ret
  exact ⟨er_, hq1_ HB.1 GE253.1⟩
 ·rw [if_neg c2] at H; have c2b0 : decide ((l0_0.length : Int) < 1) = false := decide_eq_false c2; have c2b1 : decide (l0_0.length < 1) = false := decide_eq_false (by omega); clear c2
  by_cases c5 : (l0_0.length : Int) > 24
  ·rw [if_pos c5] at H; have c5b0 : decide (24 < (l0_0.length : Int)) = true := decide_eq_true c5; have c5b1 : decide (24 < l0_0.length) = true := decide_eq_true (by omega); clear c5; obtain rfl := Option.some.inj H
   go_enter Try.func54, Try.ntmps54
   go_wp2_with (first | ((with_reducible refine gate_dst (N := 1) rfl ?_); (try (refine gate_guard (by rfl) ?_; dsimp only)); refine box_event ?hg (N := 1) ?hd (cs := #[.slice A0_0 l0_0.length c0_0, .int .i64 a0_1]) (t := 27) ?hr ?_; (case hd => rfl); (case hg => rfl); (case hr => first | (go_simp; done) | (go_simp; rfl)); intro gb253 hg w6 hbox hb; have BK253 := ak (hbox); have GW253 := gw_ hg HB.1.size; have GE253 := gw_ hg HB.1.size; replace HB := ak (below_step HB.1 hb); clear hb hbox hg; obtain ⟨hcz7_0, hcz7_1, hfz7_0, hfz7_1⟩ := bk2 BK253.1))
   go_ret
   exact ⟨er_, hq1_ HB.1 GE253.1⟩
  ·rw [if_neg c5] at H; have c5b0 : decide (24 < (l0_0.length : Int)) = false := decide_eq_false c5; have c5b1 : decide (24 < l0_0.length) = false := decide_eq_false (by omega); clear c5
   by_cases c8 : a0_1 < 0
   ·rw [if_pos c8] at H; have c8b0 : decide (a0_1 < 0) = true := decide_eq_true c8; clear c8; obtain rfl := Option.some.inj H
    go_enter Try.func54, Try.ntmps54
    go_wp2_with (first | ((with_reducible refine gate_dst (N := 1) rfl ?_); (try (refine gate_guard (by rfl) ?_; dsimp only)); refine box_event ?hg (N := 1) ?hd (cs := #[.slice A0_0 l0_0.length c0_0, .int .i64 a0_1]) (t := 27) ?hr ?_; (case hd => rfl); (case hg => rfl); (case hr => first | (go_simp; done) | (go_simp; rfl)); intro gb253 hg w9 hbox hb; have BK253 := ak (hbox); have GW253 := gw_ hg HB.1.size; have GE253 := gw_ hg HB.1.size; replace HB := ak (below_step HB.1 hb); clear hb hbox hg; obtain ⟨hcz10_0, hcz10_1, hfz10_0, hfz10_1⟩ := bk2 BK253.1))
    go_ret
    exact ⟨er_, hq1_ HB.1 GE253.1⟩
   ·rw [if_neg c8] at H; have c8b0 : decide (a0_1 < 0) = false := decide_eq_false c8; clear c8
    by_cases c11 : a0_1 ≥ (l0_0.length : Int)
    ·rw [if_pos c11] at H; have c11b0 : decide ((l0_0.length : Int) ≤ a0_1) = true := decide_eq_true c11; clear c11; obtain rfl := Option.some.inj H
     go_enter Try.func54, Try.ntmps54
     go_wp2_with (first | ((with_reducible refine gate_dst (N := 1) rfl ?_); (try (refine gate_guard (by rfl) ?_; dsimp only)); refine box_event ?hg (N := 1) ?hd (cs := #[.slice A0_0 l0_0.length c0_0, .int .i64 a0_1]) (t := 27) ?hr ?_; (case hd => rfl); (case hg => rfl); (case hr => first | (go_simp; done) | (go_simp; rfl)); intro gb253 hg w12 hbox hb; have BK253 := ak (hbox); have GW253 := gw_ hg HB.1.size; have GE253 := gw_ hg HB.1.size; replace HB := ak (below_step HB.1 hb); clear hb hbox hg; obtain ⟨hcz13_0, hcz13_1, hfz13_0, hfz13_1⟩ := bk2 BK253.1))
     go_ret
     exact ⟨er_, hq1_ HB.1 GE253.1⟩
    ·rw [if_neg c11] at H; have c11b0 : decide ((l0_0.length : Int) ≤ a0_1) = false := decide_eq_false c11; clear c11
     by_cases c14 : 0 ≤ a0_1
     ·rw [if_pos c14] at H; have c14b0 : decide (0 ≤ a0_1) = true := decide_eq_true c14; clear c14
      by_cases c15 : a0_1 < (l0_0.length : Int)
      ·rw [if_pos c15] at H; have c15b0 : decide (a0_1 < (l0_0.length : Int)) = true := decide_eq_true c15; clear c15; obtain rfl := Option.some.inj H
       go_enter Try.func54, Try.ntmps54
       go_wp2_with (first | ((with_reducible refine gate_dst (N := 1) rfl ?_); (try (refine gate_guard (by rfl) ?_; dsimp only)); refine box_event ?hg (N := 1) ?hd (cs := #[.slice A0_0 l0_0.length c0_0, .int .i64 a0_1]) (t := 27) ?hr ?_; (case hd => rfl); (case hg => rfl); (case hr => first | (go_simp; done) | (go_simp; rfl)); intro gb253 hg w16 hbox hb; have BK253 := ak (hbox); have GW253 := gw_ hg HB.1.size; have GE253 := gw_ hg HB.1.size; replace HB := ak (below_step HB.1 hb); clear hb hbox hg; obtain ⟨hcz17_0, hcz17_1, hfz17_0, hfz17_1⟩ := bk2 BK253.1; have p254 : 0 ≤ (a0_1 : Int) := of_decide_eq_true (as_); have q254 : a0_1 < (l0_0.length : Int) := of_decide_eq_true (as_); obtain ⟨ad254, e254, hx254_0⟩ := Kd.at_bool HR0_0.1 a0_1 p254 q254; cases e254; replace hx254_0 := (HB.1.cell (World.block_lt_of_cell? w _ hx254_0)).trans hx254_0; replace p254 := eq_true p254; replace q254 := eq_true q254))
       go_ret
       exact ⟨er_, hq1_ HB.1 GE253.1⟩
      ·rw [if_neg c15] at H; exact absurd H (by simp)
     ·rw [if_neg c14] at H; exact absurd H (by simp)
def taquinlaw26_fair.f (k : Nat) (a0_0 : Int) (a0_1 : Int) (a0_2 : Int) (l0_3 : List Int) (l0_4 : List Int) (l1 : List Int) (l2_0 : List Bool) (a2_1 : Int) : Option (Bool) := (taquinref07_Few.f a0_0 a0_1 a0_2 l0_3 l0_4 100).bind fun t257 => (if t257 = true then ((taquinref07_Right.f k a0_0 a0_1 a0_2 l0_3 l0_4).bind fun t258 => (if t258 = true then (if (l1.length : Int) ≤ 14 then ((taquinref08_Right.f k l1).bind fun t259 => (if t259 = true then ((taquinref25_Right.f l2_0 a2_1).bind fun t260 => (if t260 = true then (some ((l2_0.length : Int) == (l1.length : Int))) else (some false))) else (some false))) else (some false)) else (some false))) else (some false))
theorem taquinlaw26_fair.mono : ∀ a0 a1 a2 a3 a4 a5 a6 a7 k, LeO (taquinlaw26_fair.f k a0 a1 a2 a3 a4 a5 a6 a7) (taquinlaw26_fair.f (k + 1) a0 a1 a2 a3 a4 a5 a6 a7) := by
 intro a0 a1 a2 a3 a4 a5 a6 a7 k
 unfold taquinlaw26_fair.f
 repeat' first
   | (with_reducible exact taquinref07_Right.mono _ _ _ _ _ _)
   | (with_reducible exact taquinref08_Right.mono _ _)
   | (with_reducible exact LeO.refl _)
   | (with_reducible exact LeO.none _)
   | (with_reducible refine LeO.ite ?_ ?_)
   | (with_reducible refine LeO.bind ?_ (fun _ => ?_))
   | exact taquinref07_Right.mono _ _ _ _ _ _
   | exact taquinref08_Right.mono _ _
   | exact LeO.none _
   | refine LeO.ite ?_ ?_
   | refine LeO.bind ?_ (fun _ => ?_)
set_option maxHeartbeats 8000000 in
set_option maxRecDepth 100000 in
theorem taquinlaw26_fair.calls (k : Nat) (a0_0 : Int) (a0_1 : Int) (a0_2 : Int) (A0_3 : Option Addr) (c0_3 : Nat) (l0_3 : List Int) (A0_4 : Option Addr) (c0_4 : Nat) (l0_4 : List Int) (A1 : Option Addr) (c1 : Nat) (l1 : List Int) (A2_0 : Option Addr) (c2_0 : Nat) (l2_0 : List Bool) (a2_1 : Int) (r : Bool) (w : World) (hr0_3 : Kd.C (Kd.int .i64) w A0_3 l0_3.length l0_3) (hc0_3 : l0_3.length ≤ c0_3) (hr0_4 : Kd.C (Kd.int .i64) w A0_4 l0_4.length l0_4) (hc0_4 : l0_4.length ≤ c0_4) (hr1 : Kd.C (Kd.int .i64) w A1 l1.length l1) (hc1 : l1.length ≤ c1) (hr2_0 : Kd.C Kd.bool w A2_0 l2_0.length l2_0) (hc2_0 : l2_0.length ≤ c2_0) (h : taquinlaw26_fair.f k a0_0 a0_1 a0_2 l0_3 l0_4 l1 l2_0 a2_1 = some r) :
  Calls Try.prog 15 #[.agg #[.int .i64 a0_0, .int .i64 a0_1, .int .i64 a0_2, .slice A0_3 l0_3.length c0_3, .slice A0_4 l0_4.length c0_4], .slice A1 l1.length c1, .agg #[.slice A2_0 l2_0.length c2_0, .int .i64 a2_1]] w fun e w' => e = .returned (.bool r) ∧ Below w.heap.size w w' := by
 have hu24 := Try.underlying24; have hu27 := Try.underlying27; have HR0_3 := ak hr0_3; have HC0_3 := ak hc0_3; clear hr0_3 hc0_3; have HR0_4 := ak hr0_4; have HC0_4 := ak hc0_4; clear hr0_4 hc0_4; have HR1 := ak hr1; have HC1 := ak hc1; clear hr1 hc1; have HR2_0 := ak hr2_0; have HC2_0 := ak hc2_0; clear hr2_0 hc2_0; have HB := ak (Below.refl w.heap.size w); have H : ((taquinref07_Few.f a0_0 a0_1 a0_2 l0_3 l0_4 100).bind fun t257 => (if t257 = true then ((taquinref07_Right.f k a0_0 a0_1 a0_2 l0_3 l0_4).bind fun t258 => (if t258 = true then (if (l1.length : Int) ≤ 14 then ((taquinref08_Right.f k l1).bind fun t259 => (if t259 = true then ((taquinref25_Right.f l2_0 a2_1).bind fun t260 => (if t260 = true then (some ((l2_0.length : Int) == (l1.length : Int))) else (some false))) else (some false))) else (some false)) else (some false))) else (some false))) = some r := h; clear h; replace H := Option.bind_eq_some_iff.mp H; obtain ⟨t257, A40, H⟩ := H
 replace H : (if t257 = true then ((taquinref07_Right.f k a0_0 a0_1 a0_2 l0_3 l0_4).bind fun t258 => (if t258 = true then (if (l1.length : Int) ≤ 14 then ((taquinref08_Right.f k l1).bind fun t259 => (if t259 = true then ((taquinref25_Right.f l2_0 a2_1).bind fun t260 => (if t260 = true then (some ((l2_0.length : Int) == (l1.length : Int))) else (some false))) else (some false))) else (some false)) else (some false))) else (some false)) = some r := H
 have A4 := ak A40; clear A40
 by_cases c5 : t257 = true
 ·subst c5
  have H1 : ((taquinref07_Right.f k a0_0 a0_1 a0_2 l0_3 l0_4).bind fun t258 => (if t258 = true then (if (l1.length : Int) ≤ 14 then ((taquinref08_Right.f k l1).bind fun t259 => (if t259 = true then ((taquinref25_Right.f l2_0 a2_1).bind fun t260 => (if t260 = true then (some ((l2_0.length : Int) == (l1.length : Int))) else (some false))) else (some false))) else (some false)) else (some false))) = some r := by rw [if_pos rfl] at H; exact H
  clear H; have H := H1; clear H1; replace H := Option.bind_eq_some_iff.mp H; obtain ⟨t258, A60, H⟩ := H
  replace H : (if t258 = true then (if (l1.length : Int) ≤ 14 then ((taquinref08_Right.f k l1).bind fun t259 => (if t259 = true then ((taquinref25_Right.f l2_0 a2_1).bind fun t260 => (if t260 = true then (some ((l2_0.length : Int) == (l1.length : Int))) else (some false))) else (some false))) else (some false)) else (some false)) = some r := H
  have A6 := ak A60; clear A60
  by_cases c7 : t258 = true
  ·subst c7
   have H1 : (if (l1.length : Int) ≤ 14 then ((taquinref08_Right.f k l1).bind fun t259 => (if t259 = true then ((taquinref25_Right.f l2_0 a2_1).bind fun t260 => (if t260 = true then (some ((l2_0.length : Int) == (l1.length : Int))) else (some false))) else (some false))) else (some false)) = some r := by rw [if_pos rfl] at H; exact H
   clear H; have H := H1; clear H1
   by_cases c8 : (l1.length : Int) ≤ 14
   ·rw [if_pos c8] at H; have c8b0 : decide ((l1.length : Int) ≤ 14) = true := decide_eq_true c8; have c8b1 : decide (l1.length ≤ 14) = true := decide_eq_true (by omega); clear c8; replace H := Option.bind_eq_some_iff.mp H; obtain ⟨t259, A90, H⟩ := H
    replace H : (if t259 = true then ((taquinref25_Right.f l2_0 a2_1).bind fun t260 => (if t260 = true then (some ((l2_0.length : Int) == (l1.length : Int))) else (some false))) else (some false)) = some r := H
    have A9 := ak A90; clear A90
    by_cases c10 : t259 = true
    ·subst c10
     have H1 : ((taquinref25_Right.f l2_0 a2_1).bind fun t260 => (if t260 = true then (some ((l2_0.length : Int) == (l1.length : Int))) else (some false))) = some r := by rw [if_pos rfl] at H; exact H
     clear H; have H := H1; clear H1; replace H := Option.bind_eq_some_iff.mp H; obtain ⟨t260, A110, H⟩ := H
     replace H : (if t260 = true then (some ((l2_0.length : Int) == (l1.length : Int))) else (some false)) = some r := H
     have A11 := ak A110; clear A110
     by_cases c12 : t260 = true
     ·subst c12
      have H1 : (some ((l2_0.length : Int) == (l1.length : Int))) = some r := by rw [if_pos rfl] at H; exact H
      clear H; have H := H1; clear H1; obtain rfl := Option.some.inj H
      go_enter Try.func15, Try.ntmps15
      go_wp2_with (first | ((with_reducible refine gate_dst (N := 3) rfl ?_); (try (refine gate_guard (by rfl) ?_; dsimp only)); refine box_event ?hg (N := 3) ?hd (cs := #[.int .i64 a0_0, .int .i64 a0_1, .int .i64 a0_2, .slice A0_3 l0_3.length c0_3, .slice A0_4 l0_4.length c0_4]) (t := 24) ?hr ?_; (case hd => rfl); (case hg => rfl); (case hr => first | (go_simp; done) | (go_simp; rfl)); intro gb255 hg w13 hbox hb; have BK255 := ak (hbox); have GW255 := gw_ hg HB.1.size; have GE255 := gw_ hg HB.1.size; replace HB := ak (below_step HB.1 hb); clear hb hbox hg) | ((with_reducible refine gate_dst (N := 5) rfl ?_); (try (refine gate_guard (by rfl) ?_; dsimp only)); refine box_event ?hg (N := 5) ?hd (cs := #[.slice A2_0 l2_0.length c2_0, .int .i64 a2_1]) (t := 27) ?hr ?_; (case hd => rfl); (case hg => rfl); (case hr => first | (go_simp; done) | (go_simp; rfl)); intro gb256 hg w14 hbox hb; have n0_ := ak (blk_below BK255.1 hb); have n1_ := ak (below_step HB.1 hb); have n2_ := ak (hbox); have n3_ := gw_ hg HB.1.size; have n4_ := gw_ hg HB.1.size; have n5_ := ak ((by rw [hg]; exact Nat.ne_of_lt (blk_lt BK255.1) : gb255 ≠ gb256)); have n6_ := ak ((by rw [hg]; exact Nat.ne_of_gt (blk_lt BK255.1) : gb256 ≠ gb255)); clear BK255 HB; have BK255 := n0_; have HB := n1_; have BK256 := n2_; have GW256 := n3_; have GE256 := n4_; have NB255_256 := n5_; have NB256_255 := n6_; clear n0_ n1_ n2_ n3_ n4_ n5_ n6_; clear hb hbox hg; have hnb15 := NB255_256.1; have hnc15 := NB256_255.1; obtain ⟨hcz16_0, hcz16_1, hcz16_2, hcz16_3, hcz16_4, hfz16_0, hfz16_1, hfz16_2, hfz16_3, hfz16_4⟩ := bk5 BK255.1) | ((with_reducible refine gate_callee (f := 24) rfl ?_); refine goesL_ (some 8) rfl rfl Try.func24 (by kernel_rfl) rfl #[.agg #[.int .i64 a0_0, .int .i64 a0_1, .int .i64 a0_2, .slice A0_3 l0_3.length c0_3, .slice A0_4 l0_4.length c0_4], .int .i64 100] rfl (sm_) ?_; (with_reducible refine (taquinref07_Few.calls a0_0 a0_1 a0_2 _ _ l0_3 _ _ l0_4 100 true _ ?side1 ?side2 ?side3 ?side4 A4.1).mono ?_); (case side1 => exact (Kd.C_below HR0_3.1 HB.1)); (case side2 => exact HC0_3.1); (case side3 => exact (Kd.C_below HR0_4.1 HB.1)); (case side4 => exact HC0_4.1); rintro e w17 ⟨rfl, hb⟩; refine ⟨_, rfl, ?_⟩; replace BK255 := ak (blk_below BK255.1 hb); replace BK256 := ak (blk_below BK256.1 hb); replace HB := ak (below_step HB.1 hb); (try clear hb); obtain ⟨hcz18_0, hcz18_1, hcz18_2, hcz18_3, hcz18_4, hfz18_0, hfz18_1, hfz18_2, hfz18_3, hfz18_4⟩ := bk5 BK255.1) | (go_at_call 25; (with_reducible refine (taquinref07_Right.calls k a0_0 a0_1 a0_2 _ _ l0_3 _ _ l0_4 true _ ?side1 ?side2 ?side3 ?side4 A6.1).mono ?_); (case side1 => exact (Kd.C_below HR0_3.1 HB.1)); (case side2 => exact HC0_3.1); (case side3 => exact (Kd.C_below HR0_4.1 HB.1)); (case side4 => exact HC0_4.1); rintro e w19 ⟨rfl, hb⟩; replace BK255 := ak (blk_below BK255.1 hb); replace BK256 := ak (blk_below BK256.1 hb); replace HB := ak (below_step HB.1 hb); (try clear hb)) | (go_at_call 26; (with_reducible refine (taquinref08_Right.calls k _ _ l1 true _ ?side1 ?side2 A9.1).mono ?_); (case side1 => exact (Kd.C_below HR1.1 HB.1)); (case side2 => exact HC1.1); rintro e w20 ⟨rfl, hb⟩; replace BK255 := ak (blk_below BK255.1 hb); replace BK256 := ak (blk_below BK256.1 hb); replace HB := ak (below_step HB.1 hb); (try clear hb); obtain ⟨hcz21_0, hcz21_1, hfz21_0, hfz21_1⟩ := bk2 BK256.1) | (go_at_call 54; (with_reducible refine (taquinref25_Right.calls _ _ l2_0 a2_1 true _ ?side1 ?side2 A11.1).mono ?_); (case side1 => exact (Kd.C_below HR2_0.1 HB.1)); (case side2 => exact HC2_0.1); rintro e w22 ⟨rfl, hb⟩; replace BK255 := ak (blk_below BK255.1 hb); replace BK256 := ak (blk_below BK256.1 hb); replace HB := ak (below_step HB.1 hb); (try clear hb); obtain ⟨hcz23_0, hcz23_1, hfz23_0, hfz23_1⟩ := bk2 BK256.1))
      go_ret
      exact ⟨er_, hq2_ HB.1 GE255.1 GE256.1⟩
     ·replace c12 := Bool.eq_false_iff.mpr c12; subst c12
      have H1 : (some false) = some r := by rw [if_neg (show ¬ (false = true) by decide)] at H; exact H
      clear H; have H := H1; clear H1; obtain rfl := Option.some.inj H
      go_enter Try.func15, Try.ntmps15
      go_wp2_with (first | ((with_reducible refine gate_dst (N := 3) rfl ?_); (try (refine gate_guard (by rfl) ?_; dsimp only)); refine box_event ?hg (N := 3) ?hd (cs := #[.int .i64 a0_0, .int .i64 a0_1, .int .i64 a0_2, .slice A0_3 l0_3.length c0_3, .slice A0_4 l0_4.length c0_4]) (t := 24) ?hr ?_; (case hd => rfl); (case hg => rfl); (case hr => first | (go_simp; done) | (go_simp; rfl)); intro gb255 hg w24 hbox hb; have BK255 := ak (hbox); have GW255 := gw_ hg HB.1.size; have GE255 := gw_ hg HB.1.size; replace HB := ak (below_step HB.1 hb); clear hb hbox hg) | ((with_reducible refine gate_dst (N := 5) rfl ?_); (try (refine gate_guard (by rfl) ?_; dsimp only)); refine box_event ?hg (N := 5) ?hd (cs := #[.slice A2_0 l2_0.length c2_0, .int .i64 a2_1]) (t := 27) ?hr ?_; (case hd => rfl); (case hg => rfl); (case hr => first | (go_simp; done) | (go_simp; rfl)); intro gb256 hg w25 hbox hb; have n0_ := ak (blk_below BK255.1 hb); have n1_ := ak (below_step HB.1 hb); have n2_ := ak (hbox); have n3_ := gw_ hg HB.1.size; have n4_ := gw_ hg HB.1.size; have n5_ := ak ((by rw [hg]; exact Nat.ne_of_lt (blk_lt BK255.1) : gb255 ≠ gb256)); have n6_ := ak ((by rw [hg]; exact Nat.ne_of_gt (blk_lt BK255.1) : gb256 ≠ gb255)); clear BK255 HB; have BK255 := n0_; have HB := n1_; have BK256 := n2_; have GW256 := n3_; have GE256 := n4_; have NB255_256 := n5_; have NB256_255 := n6_; clear n0_ n1_ n2_ n3_ n4_ n5_ n6_; clear hb hbox hg; have hnb26 := NB255_256.1; have hnc26 := NB256_255.1; obtain ⟨hcz27_0, hcz27_1, hcz27_2, hcz27_3, hcz27_4, hfz27_0, hfz27_1, hfz27_2, hfz27_3, hfz27_4⟩ := bk5 BK255.1) | ((with_reducible refine gate_callee (f := 24) rfl ?_); refine goesL_ (some 8) rfl rfl Try.func24 (by kernel_rfl) rfl #[.agg #[.int .i64 a0_0, .int .i64 a0_1, .int .i64 a0_2, .slice A0_3 l0_3.length c0_3, .slice A0_4 l0_4.length c0_4], .int .i64 100] rfl (sm_) ?_; (with_reducible refine (taquinref07_Few.calls a0_0 a0_1 a0_2 _ _ l0_3 _ _ l0_4 100 true _ ?side1 ?side2 ?side3 ?side4 A4.1).mono ?_); (case side1 => exact (Kd.C_below HR0_3.1 HB.1)); (case side2 => exact HC0_3.1); (case side3 => exact (Kd.C_below HR0_4.1 HB.1)); (case side4 => exact HC0_4.1); rintro e w28 ⟨rfl, hb⟩; refine ⟨_, rfl, ?_⟩; replace BK255 := ak (blk_below BK255.1 hb); replace BK256 := ak (blk_below BK256.1 hb); replace HB := ak (below_step HB.1 hb); (try clear hb); obtain ⟨hcz29_0, hcz29_1, hcz29_2, hcz29_3, hcz29_4, hfz29_0, hfz29_1, hfz29_2, hfz29_3, hfz29_4⟩ := bk5 BK255.1) | (go_at_call 25; (with_reducible refine (taquinref07_Right.calls k a0_0 a0_1 a0_2 _ _ l0_3 _ _ l0_4 true _ ?side1 ?side2 ?side3 ?side4 A6.1).mono ?_); (case side1 => exact (Kd.C_below HR0_3.1 HB.1)); (case side2 => exact HC0_3.1); (case side3 => exact (Kd.C_below HR0_4.1 HB.1)); (case side4 => exact HC0_4.1); rintro e w30 ⟨rfl, hb⟩; replace BK255 := ak (blk_below BK255.1 hb); replace BK256 := ak (blk_below BK256.1 hb); replace HB := ak (below_step HB.1 hb); (try clear hb)) | (go_at_call 26; (with_reducible refine (taquinref08_Right.calls k _ _ l1 true _ ?side1 ?side2 A9.1).mono ?_); (case side1 => exact (Kd.C_below HR1.1 HB.1)); (case side2 => exact HC1.1); rintro e w31 ⟨rfl, hb⟩; replace BK255 := ak (blk_below BK255.1 hb); replace BK256 := ak (blk_below BK256.1 hb); replace HB := ak (below_step HB.1 hb); (try clear hb); obtain ⟨hcz32_0, hcz32_1, hfz32_0, hfz32_1⟩ := bk2 BK256.1) | (go_at_call 54; (with_reducible refine (taquinref25_Right.calls _ _ l2_0 a2_1 false _ ?side1 ?side2 A11.1).mono ?_); (case side1 => exact (Kd.C_below HR2_0.1 HB.1)); (case side2 => exact HC2_0.1); rintro e w33 ⟨rfl, hb⟩; replace BK255 := ak (blk_below BK255.1 hb); replace BK256 := ak (blk_below BK256.1 hb); replace HB := ak (below_step HB.1 hb); (try clear hb)))
      go_ret
      exact ⟨er_, hq2_ HB.1 GE255.1 GE256.1⟩
    ·replace c10 := Bool.eq_false_iff.mpr c10; subst c10
     have H1 : (some false) = some r := by rw [if_neg (show ¬ (false = true) by decide)] at H; exact H
     clear H; have H := H1; clear H1; obtain rfl := Option.some.inj H
     go_enter Try.func15, Try.ntmps15
     go_wp2_with (first | ((with_reducible refine gate_dst (N := 3) rfl ?_); (try (refine gate_guard (by rfl) ?_; dsimp only)); refine box_event ?hg (N := 3) ?hd (cs := #[.int .i64 a0_0, .int .i64 a0_1, .int .i64 a0_2, .slice A0_3 l0_3.length c0_3, .slice A0_4 l0_4.length c0_4]) (t := 24) ?hr ?_; (case hd => rfl); (case hg => rfl); (case hr => first | (go_simp; done) | (go_simp; rfl)); intro gb255 hg w34 hbox hb; have BK255 := ak (hbox); have GW255 := gw_ hg HB.1.size; have GE255 := gw_ hg HB.1.size; replace HB := ak (below_step HB.1 hb); clear hb hbox hg) | ((with_reducible refine gate_dst (N := 5) rfl ?_); (try (refine gate_guard (by rfl) ?_; dsimp only)); refine box_event ?hg (N := 5) ?hd (cs := #[.slice A2_0 l2_0.length c2_0, .int .i64 a2_1]) (t := 27) ?hr ?_; (case hd => rfl); (case hg => rfl); (case hr => first | (go_simp; done) | (go_simp; rfl)); intro gb256 hg w35 hbox hb; have n0_ := ak (blk_below BK255.1 hb); have n1_ := ak (below_step HB.1 hb); have n2_ := ak (hbox); have n3_ := gw_ hg HB.1.size; have n4_ := gw_ hg HB.1.size; have n5_ := ak ((by rw [hg]; exact Nat.ne_of_lt (blk_lt BK255.1) : gb255 ≠ gb256)); have n6_ := ak ((by rw [hg]; exact Nat.ne_of_gt (blk_lt BK255.1) : gb256 ≠ gb255)); clear BK255 HB; have BK255 := n0_; have HB := n1_; have BK256 := n2_; have GW256 := n3_; have GE256 := n4_; have NB255_256 := n5_; have NB256_255 := n6_; clear n0_ n1_ n2_ n3_ n4_ n5_ n6_; clear hb hbox hg; have hnb36 := NB255_256.1; have hnc36 := NB256_255.1; obtain ⟨hcz37_0, hcz37_1, hcz37_2, hcz37_3, hcz37_4, hfz37_0, hfz37_1, hfz37_2, hfz37_3, hfz37_4⟩ := bk5 BK255.1) | ((with_reducible refine gate_callee (f := 24) rfl ?_); refine goesL_ (some 8) rfl rfl Try.func24 (by kernel_rfl) rfl #[.agg #[.int .i64 a0_0, .int .i64 a0_1, .int .i64 a0_2, .slice A0_3 l0_3.length c0_3, .slice A0_4 l0_4.length c0_4], .int .i64 100] rfl (sm_) ?_; (with_reducible refine (taquinref07_Few.calls a0_0 a0_1 a0_2 _ _ l0_3 _ _ l0_4 100 true _ ?side1 ?side2 ?side3 ?side4 A4.1).mono ?_); (case side1 => exact (Kd.C_below HR0_3.1 HB.1)); (case side2 => exact HC0_3.1); (case side3 => exact (Kd.C_below HR0_4.1 HB.1)); (case side4 => exact HC0_4.1); rintro e w38 ⟨rfl, hb⟩; refine ⟨_, rfl, ?_⟩; replace BK255 := ak (blk_below BK255.1 hb); replace BK256 := ak (blk_below BK256.1 hb); replace HB := ak (below_step HB.1 hb); (try clear hb); obtain ⟨hcz39_0, hcz39_1, hcz39_2, hcz39_3, hcz39_4, hfz39_0, hfz39_1, hfz39_2, hfz39_3, hfz39_4⟩ := bk5 BK255.1) | (go_at_call 25; (with_reducible refine (taquinref07_Right.calls k a0_0 a0_1 a0_2 _ _ l0_3 _ _ l0_4 true _ ?side1 ?side2 ?side3 ?side4 A6.1).mono ?_); (case side1 => exact (Kd.C_below HR0_3.1 HB.1)); (case side2 => exact HC0_3.1); (case side3 => exact (Kd.C_below HR0_4.1 HB.1)); (case side4 => exact HC0_4.1); rintro e w40 ⟨rfl, hb⟩; replace BK255 := ak (blk_below BK255.1 hb); replace BK256 := ak (blk_below BK256.1 hb); replace HB := ak (below_step HB.1 hb); (try clear hb)) | (go_at_call 26; (with_reducible refine (taquinref08_Right.calls k _ _ l1 false _ ?side1 ?side2 A9.1).mono ?_); (case side1 => exact (Kd.C_below HR1.1 HB.1)); (case side2 => exact HC1.1); rintro e w41 ⟨rfl, hb⟩; replace BK255 := ak (blk_below BK255.1 hb); replace BK256 := ak (blk_below BK256.1 hb); replace HB := ak (below_step HB.1 hb); (try clear hb)))
     go_ret
     exact ⟨er_, hq2_ HB.1 GE255.1 GE256.1⟩
   ·rw [if_neg c8] at H; have c8b0 : decide ((l1.length : Int) ≤ 14) = false := decide_eq_false c8; have c8b1 : decide (l1.length ≤ 14) = false := decide_eq_false (by omega); clear c8; obtain rfl := Option.some.inj H
    go_enter Try.func15, Try.ntmps15
    go_wp2_with (first | ((with_reducible refine gate_dst (N := 3) rfl ?_); (try (refine gate_guard (by rfl) ?_; dsimp only)); refine box_event ?hg (N := 3) ?hd (cs := #[.int .i64 a0_0, .int .i64 a0_1, .int .i64 a0_2, .slice A0_3 l0_3.length c0_3, .slice A0_4 l0_4.length c0_4]) (t := 24) ?hr ?_; (case hd => rfl); (case hg => rfl); (case hr => first | (go_simp; done) | (go_simp; rfl)); intro gb255 hg w42 hbox hb; have BK255 := ak (hbox); have GW255 := gw_ hg HB.1.size; have GE255 := gw_ hg HB.1.size; replace HB := ak (below_step HB.1 hb); clear hb hbox hg) | ((with_reducible refine gate_dst (N := 5) rfl ?_); (try (refine gate_guard (by rfl) ?_; dsimp only)); refine box_event ?hg (N := 5) ?hd (cs := #[.slice A2_0 l2_0.length c2_0, .int .i64 a2_1]) (t := 27) ?hr ?_; (case hd => rfl); (case hg => rfl); (case hr => first | (go_simp; done) | (go_simp; rfl)); intro gb256 hg w43 hbox hb; have n0_ := ak (blk_below BK255.1 hb); have n1_ := ak (below_step HB.1 hb); have n2_ := ak (hbox); have n3_ := gw_ hg HB.1.size; have n4_ := gw_ hg HB.1.size; have n5_ := ak ((by rw [hg]; exact Nat.ne_of_lt (blk_lt BK255.1) : gb255 ≠ gb256)); have n6_ := ak ((by rw [hg]; exact Nat.ne_of_gt (blk_lt BK255.1) : gb256 ≠ gb255)); clear BK255 HB; have BK255 := n0_; have HB := n1_; have BK256 := n2_; have GW256 := n3_; have GE256 := n4_; have NB255_256 := n5_; have NB256_255 := n6_; clear n0_ n1_ n2_ n3_ n4_ n5_ n6_; clear hb hbox hg; have hnb44 := NB255_256.1; have hnc44 := NB256_255.1; obtain ⟨hcz45_0, hcz45_1, hcz45_2, hcz45_3, hcz45_4, hfz45_0, hfz45_1, hfz45_2, hfz45_3, hfz45_4⟩ := bk5 BK255.1) | ((with_reducible refine gate_callee (f := 24) rfl ?_); refine goesL_ (some 8) rfl rfl Try.func24 (by kernel_rfl) rfl #[.agg #[.int .i64 a0_0, .int .i64 a0_1, .int .i64 a0_2, .slice A0_3 l0_3.length c0_3, .slice A0_4 l0_4.length c0_4], .int .i64 100] rfl (sm_) ?_; (with_reducible refine (taquinref07_Few.calls a0_0 a0_1 a0_2 _ _ l0_3 _ _ l0_4 100 true _ ?side1 ?side2 ?side3 ?side4 A4.1).mono ?_); (case side1 => exact (Kd.C_below HR0_3.1 HB.1)); (case side2 => exact HC0_3.1); (case side3 => exact (Kd.C_below HR0_4.1 HB.1)); (case side4 => exact HC0_4.1); rintro e w46 ⟨rfl, hb⟩; refine ⟨_, rfl, ?_⟩; replace BK255 := ak (blk_below BK255.1 hb); replace BK256 := ak (blk_below BK256.1 hb); replace HB := ak (below_step HB.1 hb); (try clear hb); obtain ⟨hcz47_0, hcz47_1, hcz47_2, hcz47_3, hcz47_4, hfz47_0, hfz47_1, hfz47_2, hfz47_3, hfz47_4⟩ := bk5 BK255.1) | (go_at_call 25; (with_reducible refine (taquinref07_Right.calls k a0_0 a0_1 a0_2 _ _ l0_3 _ _ l0_4 true _ ?side1 ?side2 ?side3 ?side4 A6.1).mono ?_); (case side1 => exact (Kd.C_below HR0_3.1 HB.1)); (case side2 => exact HC0_3.1); (case side3 => exact (Kd.C_below HR0_4.1 HB.1)); (case side4 => exact HC0_4.1); rintro e w48 ⟨rfl, hb⟩; replace BK255 := ak (blk_below BK255.1 hb); replace BK256 := ak (blk_below BK256.1 hb); replace HB := ak (below_step HB.1 hb); (try clear hb)))
    go_ret
    exact ⟨er_, hq2_ HB.1 GE255.1 GE256.1⟩
  ·replace c7 := Bool.eq_false_iff.mpr c7; subst c7
   have H1 : (some false) = some r := by rw [if_neg (show ¬ (false = true) by decide)] at H; exact H
   clear H; have H := H1; clear H1; obtain rfl := Option.some.inj H
   go_enter Try.func15, Try.ntmps15
   go_wp2_with (first | ((with_reducible refine gate_dst (N := 3) rfl ?_); (try (refine gate_guard (by rfl) ?_; dsimp only)); refine box_event ?hg (N := 3) ?hd (cs := #[.int .i64 a0_0, .int .i64 a0_1, .int .i64 a0_2, .slice A0_3 l0_3.length c0_3, .slice A0_4 l0_4.length c0_4]) (t := 24) ?hr ?_; (case hd => rfl); (case hg => rfl); (case hr => first | (go_simp; done) | (go_simp; rfl)); intro gb255 hg w49 hbox hb; have BK255 := ak (hbox); have GW255 := gw_ hg HB.1.size; have GE255 := gw_ hg HB.1.size; replace HB := ak (below_step HB.1 hb); clear hb hbox hg) | ((with_reducible refine gate_dst (N := 5) rfl ?_); (try (refine gate_guard (by rfl) ?_; dsimp only)); refine box_event ?hg (N := 5) ?hd (cs := #[.slice A2_0 l2_0.length c2_0, .int .i64 a2_1]) (t := 27) ?hr ?_; (case hd => rfl); (case hg => rfl); (case hr => first | (go_simp; done) | (go_simp; rfl)); intro gb256 hg w50 hbox hb; have n0_ := ak (blk_below BK255.1 hb); have n1_ := ak (below_step HB.1 hb); have n2_ := ak (hbox); have n3_ := gw_ hg HB.1.size; have n4_ := gw_ hg HB.1.size; have n5_ := ak ((by rw [hg]; exact Nat.ne_of_lt (blk_lt BK255.1) : gb255 ≠ gb256)); have n6_ := ak ((by rw [hg]; exact Nat.ne_of_gt (blk_lt BK255.1) : gb256 ≠ gb255)); clear BK255 HB; have BK255 := n0_; have HB := n1_; have BK256 := n2_; have GW256 := n3_; have GE256 := n4_; have NB255_256 := n5_; have NB256_255 := n6_; clear n0_ n1_ n2_ n3_ n4_ n5_ n6_; clear hb hbox hg; have hnb51 := NB255_256.1; have hnc51 := NB256_255.1; obtain ⟨hcz52_0, hcz52_1, hcz52_2, hcz52_3, hcz52_4, hfz52_0, hfz52_1, hfz52_2, hfz52_3, hfz52_4⟩ := bk5 BK255.1) | ((with_reducible refine gate_callee (f := 24) rfl ?_); refine goesL_ (some 8) rfl rfl Try.func24 (by kernel_rfl) rfl #[.agg #[.int .i64 a0_0, .int .i64 a0_1, .int .i64 a0_2, .slice A0_3 l0_3.length c0_3, .slice A0_4 l0_4.length c0_4], .int .i64 100] rfl (sm_) ?_; (with_reducible refine (taquinref07_Few.calls a0_0 a0_1 a0_2 _ _ l0_3 _ _ l0_4 100 true _ ?side1 ?side2 ?side3 ?side4 A4.1).mono ?_); (case side1 => exact (Kd.C_below HR0_3.1 HB.1)); (case side2 => exact HC0_3.1); (case side3 => exact (Kd.C_below HR0_4.1 HB.1)); (case side4 => exact HC0_4.1); rintro e w53 ⟨rfl, hb⟩; refine ⟨_, rfl, ?_⟩; replace BK255 := ak (blk_below BK255.1 hb); replace BK256 := ak (blk_below BK256.1 hb); replace HB := ak (below_step HB.1 hb); (try clear hb); obtain ⟨hcz54_0, hcz54_1, hcz54_2, hcz54_3, hcz54_4, hfz54_0, hfz54_1, hfz54_2, hfz54_3, hfz54_4⟩ := bk5 BK255.1) | (go_at_call 25; (with_reducible refine (taquinref07_Right.calls k a0_0 a0_1 a0_2 _ _ l0_3 _ _ l0_4 false _ ?side1 ?side2 ?side3 ?side4 A6.1).mono ?_); (case side1 => exact (Kd.C_below HR0_3.1 HB.1)); (case side2 => exact HC0_3.1); (case side3 => exact (Kd.C_below HR0_4.1 HB.1)); (case side4 => exact HC0_4.1); rintro e w55 ⟨rfl, hb⟩; replace BK255 := ak (blk_below BK255.1 hb); replace BK256 := ak (blk_below BK256.1 hb); replace HB := ak (below_step HB.1 hb); (try clear hb)))
   go_ret
   exact ⟨er_, hq2_ HB.1 GE255.1 GE256.1⟩
 ·replace c5 := Bool.eq_false_iff.mpr c5; subst c5
  have H1 : (some false) = some r := by rw [if_neg (show ¬ (false = true) by decide)] at H; exact H
  clear H; have H := H1; clear H1; obtain rfl := Option.some.inj H
  go_enter Try.func15, Try.ntmps15
  go_wp2_with (first | ((with_reducible refine gate_dst (N := 3) rfl ?_); (try (refine gate_guard (by rfl) ?_; dsimp only)); refine box_event ?hg (N := 3) ?hd (cs := #[.int .i64 a0_0, .int .i64 a0_1, .int .i64 a0_2, .slice A0_3 l0_3.length c0_3, .slice A0_4 l0_4.length c0_4]) (t := 24) ?hr ?_; (case hd => rfl); (case hg => rfl); (case hr => first | (go_simp; done) | (go_simp; rfl)); intro gb255 hg w56 hbox hb; have BK255 := ak (hbox); have GW255 := gw_ hg HB.1.size; have GE255 := gw_ hg HB.1.size; replace HB := ak (below_step HB.1 hb); clear hb hbox hg) | ((with_reducible refine gate_dst (N := 5) rfl ?_); (try (refine gate_guard (by rfl) ?_; dsimp only)); refine box_event ?hg (N := 5) ?hd (cs := #[.slice A2_0 l2_0.length c2_0, .int .i64 a2_1]) (t := 27) ?hr ?_; (case hd => rfl); (case hg => rfl); (case hr => first | (go_simp; done) | (go_simp; rfl)); intro gb256 hg w57 hbox hb; have n0_ := ak (blk_below BK255.1 hb); have n1_ := ak (below_step HB.1 hb); have n2_ := ak (hbox); have n3_ := gw_ hg HB.1.size; have n4_ := gw_ hg HB.1.size; have n5_ := ak ((by rw [hg]; exact Nat.ne_of_lt (blk_lt BK255.1) : gb255 ≠ gb256)); have n6_ := ak ((by rw [hg]; exact Nat.ne_of_gt (blk_lt BK255.1) : gb256 ≠ gb255)); clear BK255 HB; have BK255 := n0_; have HB := n1_; have BK256 := n2_; have GW256 := n3_; have GE256 := n4_; have NB255_256 := n5_; have NB256_255 := n6_; clear n0_ n1_ n2_ n3_ n4_ n5_ n6_; clear hb hbox hg; have hnb58 := NB255_256.1; have hnc58 := NB256_255.1; obtain ⟨hcz59_0, hcz59_1, hcz59_2, hcz59_3, hcz59_4, hfz59_0, hfz59_1, hfz59_2, hfz59_3, hfz59_4⟩ := bk5 BK255.1) | ((with_reducible refine gate_callee (f := 24) rfl ?_); refine goesL_ (some 8) rfl rfl Try.func24 (by kernel_rfl) rfl #[.agg #[.int .i64 a0_0, .int .i64 a0_1, .int .i64 a0_2, .slice A0_3 l0_3.length c0_3, .slice A0_4 l0_4.length c0_4], .int .i64 100] rfl (sm_) ?_; (with_reducible refine (taquinref07_Few.calls a0_0 a0_1 a0_2 _ _ l0_3 _ _ l0_4 100 false _ ?side1 ?side2 ?side3 ?side4 A4.1).mono ?_); (case side1 => exact (Kd.C_below HR0_3.1 HB.1)); (case side2 => exact HC0_3.1); (case side3 => exact (Kd.C_below HR0_4.1 HB.1)); (case side4 => exact HC0_4.1); rintro e w60 ⟨rfl, hb⟩; refine ⟨_, rfl, ?_⟩; replace BK255 := ak (blk_below BK255.1 hb); replace BK256 := ak (blk_below BK256.1 hb); replace HB := ak (below_step HB.1 hb); (try clear hb)))
  go_ret
  exact ⟨er_, hq2_ HB.1 GE255.1 GE256.1⟩
def layout_Shelves.l0 : Nat → Int → List Bool → Int → Int → Option (Int)
 | 0, _, _, _, _ => none
 | k + 1, x3, x7, x8, x9 => if x9 < x8 then (if 0 ≤ x9 then (if x9 < (x7.length : Int) then (if rdOf false x7 x9 = true then (layout_Shelves.l0 k (wrap64 (x3 + 1)) x7 x8 (wrap64 (x9 + 1))) else (layout_Shelves.l0 k x3 x7 x8 (wrap64 (x9 + 1)))) else (none)) else (none)) else (some x3)
def layout_Shelves.f (k : Nat) (l0_0 : List Bool) (a0_1 : Int) : Option (Int) := layout_Shelves.l0 k 0 l0_0 (l0_0.length : Int) 0
set_option maxHeartbeats 8000000 in
set_option maxRecDepth 100000 in
theorem layout_Shelves.calls (k : Nat) (A0_0 : Option Addr) (c0_0 : Nat) (l0_0 : List Bool) (a0_1 : Int) (r : Int) (w : World) (hr0_0 : Kd.C Kd.bool w A0_0 l0_0.length l0_0) (hc0_0 : l0_0.length ≤ c0_0) (h : layout_Shelves.f k l0_0 a0_1 = some r) :
  Calls Try.prog 32 #[.agg #[.slice A0_0 l0_0.length c0_0, .int .i64 a0_1]] w fun e w' => e = .returned (.int .i64 r) ∧ Below w.heap.size w w' := by
 have hu27 := Try.underlying27; have HR0_0 := ak hr0_0; have HC0_0 := ak hc0_0; clear hr0_0 hc0_0; have HB := ak (Below.refl w.heap.size w); have H : (layout_Shelves.l0 k 0 l0_0 (l0_0.length : Int) 0) = some r := h; clear h; have H' := ak H; clear H
 go_enter Try.func32, Try.ntmps32
 go_wp2_with (first | ((with_reducible refine gate_dst (N := 1) rfl ?_); refine box_event ?hg (N := 1) ?hd (cs := #[.slice A0_0 l0_0.length c0_0, .int .i64 a0_1]) (t := 27) ?hr ?_; (case hd => rfl); (case hg => rfl); (case hr => first | (go_simp; done) | (go_simp; rfl)); intro gb101 hg w2 hbox hb; have BK101 := ak (hbox); have GW101 := gw_ hg HB.1.size; have GE101 := gw_ hg HB.1.size; replace HB := ak (below_step HB.1 hb); clear hb hbox hg; obtain ⟨hcz3_0, hcz3_1, hfz3_0, hfz3_1⟩ := bk2 BK101.1))
 go_loopg [3, 9] k (fun kq v3 v9 w' => ∃ (x3_1 : Int) (x9_1 : Int), v3 = .int .i64 x3_1 ∧ v9 = .int .i64 x9_1 ∧ Aside0 (layout_Shelves.l0 kq x3_1 l0_0 (l0_0.length : Int) x9_1 = some r) ∧ Aside0 (kq ≤ k) ∧ Aside0 (w'.heap[gb101]? = some (.cells #[(.slice A0_0 l0_0.length c0_0), .int .i64 a0_1] 27 (0, 0))) ∧ Aside0 (Below w.heap.size w w'))
 case atStart => exact ⟨(0), (0), (rs_), (rs_), H', ⟨Nat.le_refl _⟩, ⟨by (with_reducible repeat (first | refine blk_drewN ?_ _ | refine blk_drew ?_ | refine blk_alloc ?_ _)); exact BK101.1⟩, ⟨hq1_ HB.1 GE101.1⟩⟩
 case round =>
  clear H'; (try clear p2); (try clear c3); (try clear hcz3_0); (try clear hcz3_1); (try clear hfz3_0); (try clear hfz3_1); obtain ⟨x3_1, x9_1, rfl, rfl, HA, HK1, BK101, HB⟩ := hrel
  cases gk with
  | zero => exact absurd HA.1 (by simp [layout_Shelves.l0])
  | succ k1 =>
   have H := HA.1; clear HA; simp only [layout_Shelves.l0] at H
   by_cases c4 : x9_1 < (l0_0.length : Int)
   ·rw [if_pos c4] at H; have c4b0 : decide (x9_1 < (l0_0.length : Int)) = true := decide_eq_true c4; clear c4
    by_cases c5 : 0 ≤ x9_1
    ·rw [if_pos c5] at H; have c5b0 : decide (0 ≤ x9_1) = true := decide_eq_true c5; clear c5
     by_cases c6 : x9_1 < (l0_0.length : Int)
     ·rw [if_pos c6] at H; have c6b0 : decide (x9_1 < (l0_0.length : Int)) = true := decide_eq_true c6; clear c6; obtain ⟨bq7, hbq7⟩ : ∃ b_ : Bool, b_ = (rdOf false l0_0 x9_1) := ⟨_, rfl⟩
      replace H : (if bq7 = true then (layout_Shelves.l0 k1 (wrap64 (x3_1 + 1)) l0_0 (l0_0.length : Int) (wrap64 (x9_1 + 1))) else (layout_Shelves.l0 k1 x3_1 l0_0 (l0_0.length : Int) (wrap64 (x9_1 + 1)))) = some r := by rw [← hbq7] at H; exact H
      have Nbq7 := ak hbq7; clear hbq7
      by_cases c8 : bq7 = true
      ·subst c8
       have H1 : (layout_Shelves.l0 k1 (wrap64 (x3_1 + 1)) l0_0 (l0_0.length : Int) (wrap64 (x9_1 + 1))) = some r := by rw [if_pos rfl] at H; exact H
       clear H; have H := H1; clear H1; have H' := ak H; clear H; have p102 : 0 ≤ (x9_1 : Int) := of_decide_eq_true (as_); have q102 : x9_1 < (l0_0.length : Int) := of_decide_eq_true (as_); obtain ⟨ad102, e102, hx102_0⟩ := Kd.at_bool HR0_0.1 x9_1 p102 q102; (try rw [← Nbq7.1] at hx102_0)
       cases e102
       replace hx102_0 := (HB.1.cell (World.block_lt_of_cell? w _ hx102_0)).trans hx102_0; replace p102 := eq_true p102; replace q102 := eq_true q102
       go_wp2
       go_roundg k1
       case measure => have := HK1.1; omega
       case rel => exact ⟨(wrap64 (x3_1 + 1)), (wrap64 (x9_1 + 1)), (rs_), (rs_), H', ⟨by have := HK1.1; omega⟩, ⟨by (with_reducible repeat (first | refine blk_drewN ?_ _ | refine blk_drew ?_ | refine blk_alloc ?_ _)); exact BK101.1⟩, ⟨hq1_ HB.1 GE101.1⟩⟩
      ·replace c8 := Bool.eq_false_iff.mpr c8; subst c8
       have H1 : (layout_Shelves.l0 k1 x3_1 l0_0 (l0_0.length : Int) (wrap64 (x9_1 + 1))) = some r := by rw [if_neg (show ¬ (false = true) by decide)] at H; exact H
       clear H; have H := H1; clear H1; have H' := ak H; clear H; have p102 : 0 ≤ (x9_1 : Int) := of_decide_eq_true (as_); have q102 : x9_1 < (l0_0.length : Int) := of_decide_eq_true (as_); obtain ⟨ad102, e102, hx102_0⟩ := Kd.at_bool HR0_0.1 x9_1 p102 q102; (try rw [← Nbq7.1] at hx102_0)
       cases e102
       replace hx102_0 := (HB.1.cell (World.block_lt_of_cell? w _ hx102_0)).trans hx102_0; replace p102 := eq_true p102; replace q102 := eq_true q102
       go_wp2
       go_roundg k1
       case measure => have := HK1.1; omega
       case rel => exact ⟨(x3_1), (wrap64 (x9_1 + 1)), (rs_), (rs_), H', ⟨by have := HK1.1; omega⟩, ⟨by (with_reducible repeat (first | refine blk_drewN ?_ _ | refine blk_drew ?_ | refine blk_alloc ?_ _)); exact BK101.1⟩, ⟨hq1_ HB.1 GE101.1⟩⟩
     ·rw [if_neg c6] at H; exact absurd H (by simp)
    ·rw [if_neg c5] at H; exact absurd H (by simp)
   ·rw [if_neg c4] at H; have c4b0 : decide (x9_1 < (l0_0.length : Int)) = false := decide_eq_false c4; clear c4; obtain rfl := Option.some.inj H
    go_wp2
    go_ret
    exact ⟨er_, hq1_ HB.1 GE101.1⟩
end Go.Proofs.Ytogmjilaiopjmaa.P
end
section
namespace Go.Proofs.Ytogmjilaiopjmaa.P
def bin : Nat → Nat → Nat
 | _, 0 => 1
 | 0, _ + 1 => 0
 | n + 1, k + 1 => bin n k + bin n (k + 1)
theorem bin_zero (n : Nat) : bin n 0 = 1 := by cases n <;> rfl
theorem bin_succ (n k : Nat) : bin (n + 1) (k + 1) = bin n k + bin n (k + 1) := rfl
theorem bin_big : ∀ (n k : Nat), n < k → bin n k = 0
 | 0, k + 1, _ => rfl
 | n + 1, k + 1, h => by rw [bin_succ, bin_big n k (by omega), bin_big n (k + 1) (by omega)]
theorem bin_le : ∀ (n k : Nat), bin n k ≤ 2 ^ n
 | n, 0 => by rw [bin_zero]; exact Nat.one_le_two_pow
 | 0, k + 1 => by simp [bin]
 | n + 1, k + 1 => by
  rw [bin_succ, Nat.pow_succ]; have h1 := bin_le n k; have h2 := bin_le n (k + 1)
  omega
theorem bin_lt {n k : Nat} (h : n < 25) : bin n k ≤ 16777216 := by
 have h1 := bin_le n k; have h2 : 2 ^ n ≤ 2 ^ 24 := Nat.pow_le_pow_right (by omega) (by omega)
 have h3 : (2 : Nat) ^ 24 = 16777216 := by decide
 omega
theorem bin_pos : ∀ (n k : Nat), k ≤ n → 1 ≤ bin n k
 | n, 0, _ => by rw [bin_zero]; exact Nat.le_refl _
 | n + 1, k + 1, h => by rw [bin_succ]; have := bin_pos n k (by omega); omega
def tabF (n k c : Nat) : Nat := if c / 25 < n then bin (c / 25) (c % 25) else if c / 25 = n then (if c % 25 ≤ k then bin n (c % 25) else 0) else 0
def tabG (n c : Nat) : Nat := if c / 25 < n then bin (c / 25) (c % 25) else 0
theorem tabF_first (n c : Nat) (h : c / 25 = n) (h0 : c % 25 = 0) : tabF n 0 c = 1 := by
 unfold tabF
 rw [if_neg (by omega), if_pos h, if_pos (by omega), h0, bin_zero]
theorem tabF_other0 (n c : Nat) (h : c ≠ n * 25) : tabF n 0 c = tabG n c := by
 unfold tabF tabG
 by_cases h1 : c / 25 < n
 ·rw [if_pos h1, if_pos h1]
 ·rw [if_neg h1, if_neg h1]
  by_cases h2 : c / 25 = n
  ·rw [if_pos h2, if_neg (by omega)]
  ·rw [if_neg h2]
theorem tabF_at (n k : Nat) (h : k < 24) : tabF n (k + 1) (n * 25 + (k + 1)) = bin n (k + 1) := by
 unfold tabF
 rw [if_neg (by omega), if_pos (by omega), show (n * 25 + (k + 1)) % 25 = k + 1 by omega, if_pos (Nat.le_refl _)]
theorem tabF_other (n k c : Nat) (h : c ≠ n * 25 + (k + 1)) : tabF n (k + 1) c = tabF n k c := by
 unfold tabF
 by_cases h1 : c / 25 < n
 ·rw [if_pos h1, if_pos h1]
 ·rw [if_neg h1, if_neg h1]
  by_cases h2 : c / 25 = n
  ·rw [if_pos h2, if_pos h2]
   by_cases h3 : c % 25 ≤ k
   ·rw [if_pos h3, if_pos (by omega)]
   ·rw [if_neg h3, if_neg (by omega)]
  ·rw [if_neg h2, if_neg h2]
theorem tabF_last (n c : Nat) : tabF n n c = tabG (n + 1) c := by
 unfold tabF tabG
 by_cases h1 : c / 25 < n
 ·rw [if_pos h1, if_pos (by omega)]
 ·rw [if_neg h1]
  by_cases h2 : c / 25 = n
  ·rw [if_pos h2, if_pos (show c / 25 < n + 1 by omega), h2]
   by_cases h3 : c % 25 ≤ n
   ·rw [if_pos h3]
   ·rw [if_neg h3, bin_big n _ (by omega)]
  ·rw [if_neg h2, if_neg (by omega)]
theorem tabF_up (n k j : Nat) (h : 0 < n) (hj : j < 25) : tabF n k ((n - 1) * 25 + j) = bin (n - 1) j := by
 unfold tabF
 rw [if_pos (by omega), show ((n - 1) * 25 + j) / 25 = n - 1 by omega, show ((n - 1) * 25 + j) % 25 = j by omega]
theorem tabG_at (i j : Nat) (hi : i < 25) (hj : j < 25) : tabG 25 (i * 25 + j) = bin i j := by
 unfold tabG
 rw [if_pos (by omega), show (i * 25 + j) / 25 = i by omega, show (i * 25 + j) % 25 = j by omega]
def oth (t : Nat) : Nat → List Bool → List Bool
 | _, [] => []
 | i, b :: bs => if i = t then oth t (i + 1) bs else b :: oth t (i + 1) bs
def shel (l : List Bool) : Nat := l.count true
def rk : List Bool → Nat
 | [] => 0
 | true :: bs => rk bs
 | false :: bs => (if 0 < shel bs then bin bs.length (shel bs - 1) else 0) + rk bs
theorem oth_past (t : Nat) : ∀ (i : Nat) (l : List Bool), t < i → oth t i l = l
 | _, [], _ => rfl
 | i, b :: bs, h => by rw [oth, if_neg (by omega), oth_past t (i + 1) bs (by omega)]
theorem oth_len (t : Nat) : ∀ (i : Nat) (l : List Bool), i ≤ t → t < i + l.length → (oth t i l).length + 1 = l.length
 | i, [], h, h' => by simp at h'; omega
 | i, b :: bs, h, h' => by
  rw [oth]
  by_cases e : i = t
  ·rw [if_pos e, oth_past t (i + 1) bs (by omega)]; rfl
  ·rw [if_neg e]; have := oth_len t (i + 1) bs (by omega) (by simp at h'; omega); simp only [List.length_cons]; omega
theorem oth_len_le (t : Nat) : ∀ (i : Nat) (l : List Bool), (oth t i l).length ≤ l.length
 | _, [] => Nat.le_refl _
 | i, b :: bs => by
  have := oth_len_le t (i + 1) bs; rw [oth]
  split <;> simp only [List.length_cons] <;> omega
theorem shel_cons (b : Bool) (bs : List Bool) : shel (b :: bs) = (if b then 1 else 0) + shel bs := by
 unfold shel
 cases b <;> simp <;> omega
theorem shel_nil : shel [] = 0 := rfl
theorem shel_le (l : List Bool) : shel l ≤ l.length := List.count_le_length
theorem oth_shel (t : Nat) : ∀ (i : Nat) (l : List Bool), i ≤ t → l.getD (t - i) false = true → shel (oth t i l) + 1 = shel l
 | i, [], h, h' => by simp at h'
 | i, b :: bs, h, h' => by
  rw [oth]
  by_cases e : i = t
  ·subst e
   simp at h'
   rw [if_pos rfl, oth_past i (i + 1) bs (by omega), shel_cons, h']
   simp; omega
  ·rw [if_neg e, shel_cons, shel_cons]
   have h2 : bs.getD (t - (i + 1)) false = true := by
    rw [show t - i = (t - (i + 1)) + 1 by omega, List.getD_cons_succ] at h'; exact h'
   have := oth_shel t (i + 1) bs (by omega) h2
   omega
theorem rk_lt : ∀ l : List Bool, rk l + 1 ≤ 2 ^ l.length
 | [] => by simp [rk]
 | true :: bs => by
  have := rk_lt bs; simp only [rk, List.length_cons, Nat.pow_succ]; omega
 | false :: bs => by
  have h1 := rk_lt bs; have h2 := bin_le bs.length (shel bs - 1); simp only [rk, List.length_cons, Nat.pow_succ]
  split <;> omega
def okL (l : List Bool) (t : Int) : Bool := decide (1 ≤ l.length) && decide (l.length ≤ 24) && decide (0 ≤ t) && decide (t < l.length) && l.getD t.toNat false
theorem okL_iff {l : List Bool} {t : Int} : okL l t = true ↔ 1 ≤ l.length ∧ l.length ≤ 24 ∧ 0 ≤ t ∧ t < l.length ∧ l.getD t.toNat false = true := by
 unfold okL
 simp only [Bool.and_eq_true, decide_eq_true_eq, and_assoc]
def rankN (l : List Bool) (t : Nat) : Nat := t * bin (l.length - 1) (shel l - 1) + rk (oth t 0 l)
theorem rankN_le {l : List Bool} {t : Nat} (h1 : l.length ≤ 24) (ht : t < l.length) : rankN l t ≤ 500000000 := by
 unfold rankN
 have e : t * bin (l.length - 1) (shel l - 1) ≤ 24 * 16777216 := Nat.mul_le_mul (by omega) (bin_lt (by omega)); have h2 := rk_lt (oth t 0 l); have h3 := oth_len t 0 l (by omega) (by omega); have h4 : 2 ^ (oth t 0 l).length ≤ 2 ^ 24 := Nat.pow_le_pow_right (by omega) (by omega)
 have h5 : (2 : Nat) ^ 24 = 16777216 := by decide
 omega
theorem oth_drop (t : Nat) (l : List Bool) (i : Nat) (h : i < l.length) : oth t i (l.drop i) = if i = t then oth t (i + 1) (l.drop (i + 1)) else l.getD i false :: oth t (i + 1) (l.drop (i + 1)) := by
 rw [List.drop_eq_getElem_cons h, oth, List.getD_eq_getElem?_getD, List.getElem?_eq_getElem h]; rfl
end Go.Proofs.Ytogmjilaiopjmaa.P
end
section
namespace Go.Proofs.Ytogmjilaiopjmaa.P
open Go.RowKit Go.Proofs.YtogmjilaiopjmaaW.PrintWords Go.Proofs.YtogmjilaiopjmaaW.PrintLast Go.Proofs.YtogmjilaiopjmaaW.PrintMore
theorem wrap_id {x : Int} (h0 : -9223372036854775808 ≤ x) (h1 : x ≤ 9223372036854775807) : wrap64 x = x := by
 unfold wrap64
 omega
theorem bool_cells {w : World} {A : Option Addr} {n : Nat} {l : List Bool} (h : Kd.C Kd.bool w A n l) (hn : 0 < n) : ∃ ad, A = some ad ∧ ∀ i, i < n → w.cell? (ad.add i) = some (.bool (l.getD i false)) := by
 obtain ⟨ad, e, _⟩ := Kd.at_bool h 0 (by omega) (by omega); refine ⟨ad, e, fun i hi => ?_⟩; obtain ⟨ad', e', h'⟩ := Kd.at_bool h (i : Int) (by omega) (by omega); rw [e] at e'; obtain rfl := Option.some.inj e'
 simpa [rdOf] using h'
theorem int_cells {w : World} {A : Option Addr} {n : Nat} {l : List Int} (h : Kd.C (Kd.int .i64) w A n l) (hn : 0 < n) : ∃ ad, A = some ad ∧ ∀ i, i < n → w.cell? (ad.add i) = some (.int .i64 (l.getD i 0)) := by
 obtain ⟨ad, e, _⟩ := Kd.at_int h 0 (by omega) (by omega); refine ⟨ad, e, fun i hi => ?_⟩; obtain ⟨ad', e', h'⟩ := Kd.at_int h (i : Int) (by omega) (by omega); rw [e] at e'; obtain rfl := Option.some.inj e'
 simpa [rd] using h'
theorem shelves_l0 (l : List Bool) (hl : l.length ≤ 1000000) : ∀ (d k i acc : Nat), i + d = l.length → d < k → acc ≤ i → layout_Shelves.l0 k (acc : Int) l (l.length : Int) (i : Int) = some ((acc + shel (l.drop i) : Nat) : Int) := by
 intro d
 induction d with
 | zero =>
  intro k i acc hi hk ha; obtain ⟨k, rfl⟩ : ∃ m, k = m + 1 := ⟨k - 1, by omega⟩; simp only [layout_Shelves.l0]; rw [if_neg (by omega), List.drop_of_length_le (by omega), shel_nil]; rfl
 | succ d ih =>
  intro k i acc hi hk ha; obtain ⟨k, rfl⟩ : ∃ m, k = m + 1 := ⟨k - 1, by omega⟩; simp only [layout_Shelves.l0]; rw [if_pos (by omega), if_pos (by omega), if_pos (by omega), wrap_id (by omega) (by omega), wrap_id (by omega) (by omega)]; have h1 := ih k (i + 1) (acc + 1) (by omega) (by omega) (by omega); have h2 := ih k (i + 1) acc (by omega) (by omega) (by omega)
  have h3 : shel (l.drop i) = (if l.getD i false then 1 else 0) + shel (l.drop (i + 1)) := by
   rw [List.drop_eq_getElem_cons (by omega), shel_cons, List.getD_eq_getElem?_getD, List.getElem?_eq_getElem (by omega)]; rfl
  have h4 : rdOf false l (i : Int) = l.getD i false := by simp [rdOf]
  rw [h4, h3]
  cases hb : l.getD i false
  ·rw [if_neg (by simp)]; simp only [Bool.false_eq_true, if_false, Nat.zero_add]; exact h2
  ·rw [if_pos rfl]; simp only [if_true]; rw [show acc + (1 + shel (l.drop (i + 1))) = acc + 1 + shel (l.drop (i + 1)) by omega]; exact h1
theorem shelves_f (l : List Bool) (t : Int) (hl : l.length ≤ 1000000) : layout_Shelves.f (l.length + 1) l t = some (shel l : Int) := by
 unfold layout_Shelves.f
 have := shelves_l0 l hl l.length (l.length + 1) 0 0 (by omega) (by omega) (by omega)
 simpa using this
end Go.Proofs.Ytogmjilaiopjmaa.P
end
section
namespace Go.Proofs.Ytogmjilaiopjmaa.P
open Go.RowKit Go.Proofs.YtogmjilaiopjmaaW.PrintWords Go.Proofs.YtogmjilaiopjmaaW.PrintLast Go.Proofs.YtogmjilaiopjmaaW.PrintMore
def RowBlk {α : Type} (enc : α → Value) (t : Nat) (w : World) (g : Nat) (l : List α) : Prop := w.heap[g]? = some (.cells (l.map enc).toArray t (0, 0))
abbrev BoolBlk := RowBlk Value.bool 4
abbrev IntBlk := RowBlk (Value.int .i64) 3
section
variable {α : Type} {enc : α → Value} {t : Nat} {w w1 : World} {g : Nat} {l : List α}
theorem RowBlk.cell (h : RowBlk enc t w g l) (d : α) (i : Nat) (hi : i < l.length) : w.cell? ⟨g, i, none⟩ = some (enc (l.getD i d)) := by
 rw [blk_cell h i]
 simp [List.getElem?_eq_getElem hi, List.getD_eq_getElem?_getD]
theorem RowBlk.free (h : RowBlk enc t w g l) (i : Nat) : w.frozen? ⟨g, i, none⟩ = false := blk_frozen h i
theorem RowBlk.set (h : RowBlk enc t w g l) (i : Nat) (x : α) : RowBlk enc t (w.setCell ⟨g, i, none⟩ (enc x)) g (l.set i x) := by
 have := blk_set h i (enc x)
 unfold RowBlk
 rw [this]
 simp
theorem RowBlk.far (h : RowBlk enc t w g l) {p : Addr} (hp : g ≠ p.block) (u : Value) : RowBlk enc t (w.setCell p u) g l := blk_far h hp u
theorem RowBlk.below (h : RowBlk enc t w g l) (hb : Below w.heap.size w w1) : RowBlk enc t w1 g l := blk_below h hb
theorem RowBlk.ofR {h1 : ∀ x, (enc x).oneCell' = true} {base : Nat} {ok : Nat → Prop} (h : RowBlk enc t w g l) (hb : base ≤ g) (hok : ok g) (hl : l.length ≤ 9223372036854775807) : (Kd.scalar enc h1).R t w base ok (.slice (some ⟨g, 0, none⟩) l.length l.length) l := by
 refine Kd.R_of_own ⟨by simp [encs], .inr ⟨g, l.length, _, rfl, hb, h, Nat.le_refl _, by simp only [maxLen]; omega, by simp, by simp [encs]; rw [List.take_of_length_le (by simp)]⟩⟩ (fun k hk => ?_)
 have : g = k := by simpa [Value.ownBlock] using hk
 exact this ▸ hok
end
theorem R_form {α : Type} {enc : α → Value} {h1 : ∀ x, (enc x).oneCell' = true} {e : Nat} {w : World} {base : Nat} {ok : Nat → Prop} {v : Value} {l : List α} (h : (Kd.scalar enc h1).R e w base ok v l) (hn : 0 < l.length) : ∃ g cap, v = .slice (some ⟨g, 0, none⟩) l.length cap ∧ base ≤ g := by
 have ho := Kd.own_of_R h
 rcases ho.2 with ⟨_, h0⟩ | ⟨g, cap, cur, rfl, hg, _⟩
 ·omega
 ·exact ⟨g, cap, rfl, hg⟩
theorem cell_off_ne (w : World) (g i j : Nat) (u : Value) (h : j ≠ i) : (w.setCell ⟨g, i, none⟩ u).cell? ⟨g, j, none⟩ = w.cell? ⟨g, j, none⟩ := by
 refine World.cell?_setCell_other w _ _ _ ?_; intro e
 injection e with _ e2
 exact h e2.symm
theorem alloc2_fst (w : World) (o1 o2 : Obj) : ((w.alloc o1).alloc o2).heap[w.heap.size]? = some o1 := blk_alloc (blk_new w o1) o2
theorem alloc2_snd (w : World) (o1 o2 : Obj) : ((w.alloc o1).alloc o2).heap[w.heap.size + 1]? = some o2 := by
 have h := blk_new (w.alloc o1) o2
 rwa [show (w.alloc o1).heap.size = w.heap.size + 1 by simp] at h
theorem blk_alloc2 {w : World} {g : Nat} {o : Obj} (h : w.heap[g]? = some o) (o1 o2 : Obj) : ((w.alloc o1).alloc o2).heap[g]? = some o := blk_alloc (blk_alloc h o1) o2
theorem below_alloc2 {w W : World} (h : Below w.heap.size w W) (o1 o2 : Obj) : Below w.heap.size w ((W.alloc o1).alloc o2) := below_alloc (below_alloc h o1) o2
theorem made_bools (n : Nat) : madeCells #[.bool false] n = ((List.replicate n false).map Value.bool).toArray := by
 apply Array.ext
 ·simp [size_madeCells]
 ·intro i h1 h2
  simp [madeCells, Nat.mod_one]
theorem made_ints (n : Nat) : madeCells #[.int .i64 0] n = ((List.replicate n (0 : Int)).map (Value.int .i64)).toArray := by
 apply Array.ext
 ·simp [size_madeCells]
 ·intro i h1 h2
  simp [madeCells, Nat.mod_one]
end Go.Proofs.Ytogmjilaiopjmaa.P
end
