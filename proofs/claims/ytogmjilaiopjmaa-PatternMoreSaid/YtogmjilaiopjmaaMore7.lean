/- Lemmas for the row of this claim: contracts of the functions that it reaches, and plain laws about numbers and lists. -/
import Derived.Test.YtogmjilaiopjmaaMore6
import Derived.BigRegion
set_option linter.unusedVariables false
set_option linter.unusedSimpArgs false
section
namespace Go.Proofs.Ytogmjilaiopjmaa.P
open Go.RowKit Go.Proofs.YtogmjilaiopjmaaW.PrintWords Go.Proofs.YtogmjilaiopjmaaW.PrintLast Go.Proofs.YtogmjilaiopjmaaW.PrintMore
def TabBlk (w : World) (g : Nat) (f : Nat → Nat) : Prop := ∃ A : Array Value, w.heap[g]? = some (.cells A 104 (0, 0)) ∧ A.size = 625 ∧ ∀ c, c < 625 → A[c]? = some (.int .i64 (f c : Int))
theorem TabBlk.cell {w : World} {g : Nat} {f : Nat → Nat} (h : TabBlk w g f) (c : Nat) (hc : c < 625) : w.cell? ⟨g, c, none⟩ = some (.int .i64 (f c : Int)) := by
 obtain ⟨A, hA, hs, hf⟩ := h; rw [blk_cell hA, hf c hc]
theorem TabBlk.free {w : World} {g : Nat} {f : Nat → Nat} (h : TabBlk w g f) (c : Nat) : w.frozen? ⟨g, c, none⟩ = false := by
 obtain ⟨A, hA, hs, hf⟩ := h; exact blk_frozen hA c
theorem TabBlk.lt {w : World} {g : Nat} {f : Nat → Nat} (h : TabBlk w g f) : g < w.heap.size := by
 obtain ⟨A, hA, _⟩ := h; exact blk_lt hA
theorem TabBlk.move {w w1 : World} {g : Nat} {f : Nat → Nat} (h : TabBlk w g f) (hm : ∀ o, w.heap[g]? = some o → w1.heap[g]? = some o) : TabBlk w1 g f := by
 obtain ⟨A, hA, hs⟩ := h; exact ⟨A, hm _ hA, hs⟩
theorem TabBlk.drewN {w : World} {g : Nat} {f : Nat → Nat} (h : TabBlk w g f) (n : Nat) : TabBlk (w.drewN n) g f := h
theorem TabBlk.congr {w : World} {g : Nat} {f f' : Nat → Nat} (h : TabBlk w g f) (he : ∀ c, c < 625 → f' c = f c) : TabBlk w g f' := by
 obtain ⟨A, hA, hs, hf⟩ := h; exact ⟨A, hA, hs, fun c hc => by rw [hf c hc, he c hc]⟩
theorem TabBlk.set {w : World} {g : Nat} {f f' : Nat → Nat} (h : TabBlk w g f) (i : Nat) (hi : i < 625) (v : Int) (hv : v = (f' i : Int)) (he : ∀ c, c < 625 → c ≠ i → f' c = f c) : TabBlk (w.setCell ⟨g, i, none⟩ (.int .i64 v)) g f' := by
 obtain ⟨A, hA, hs, hf⟩ := h; refine ⟨_, blk_set hA i _, by simpa using hs, fun c hc => ?_⟩
 by_cases hci : c = i
 ·subst hci; rw [Array.getElem?_setIfInBounds_self_of_lt (by omega), hv]
 ·rw [Array.getElem?_setIfInBounds_ne (Ne.symm hci), hf c hc, he c hc hci]
theorem zeros104_size : Try.zeroCells104.size = 625 := by kernel_rfl
theorem zeros104_all : ∀ c, c < 625 → Try.zeroCells104[c]? = some (.int .i64 0) := by
 intro c hc
 have h : Try.zeroCells104 = Array.replicate 625 (.int .i64 0) := by kernel_rfl
 rw [h]
 simp [Array.getElem?_replicate, hc]
set_option maxHeartbeats 400000 in
theorem layout_choose.calls (w : World) : Calls Try.prog 64 #[] w fun e w' => ∃ g, e = .returned (.pointer (some ⟨g, 0, none⟩)) ∧ w.heap.size ≤ g ∧ TabBlk w' g (tabG 25) ∧ Below w.heap.size w w' := by
 go_enter Try.func64, Try.ntmps64
 go_wp2_with fail
 go_loopg [6] 25 (fun kq v6 w' => ∃ (n : Nat), v6 = .int .i64 (n : Int) ∧ Aside0 (kq + n = 25) ∧ Aside0 (TabBlk w' w.heap.size (tabG n)) ∧ Aside0 (Below w.heap.size w w'))
 case atStart => exact ⟨0, rfl, ⟨rfl⟩, ⟨⟨_, blk_new w _, zeros104_size, fun c hc => by rw [zeros104_all c hc]; simp [tabG]⟩⟩, ⟨below_alloc (Below.refl _ _) _⟩⟩
 case round =>
  obtain ⟨n, rfl, hk, HT, HB⟩ := hrel
  by_cases hn : n < 25
  ·have hnb : decide ((n : Int) < 25) = true := decide_eq_true (by omega); have f0 := HT.1.free (n * 25); have c0 := HT.1.cell (n * 25) (by omega)
   go_wp2_with fail
   go_loopg [15] n (fun kr v15 w' => ∃ (k : Nat), v15 = .int .i64 (k : Int) ∧ Aside0 (kr + k = n) ∧ Aside0 (TabBlk w' w.heap.size (tabF n k)) ∧ Aside0 (Below w.heap.size w w'))
   case atStart => exact ⟨0, rfl, ⟨rfl⟩, ⟨HT.1.set (n * 25) (by omega) 1 (by rw [tabF_first n _ (by omega) (by omega)]; rfl) (fun c _ hc => tabF_other0 n c hc)⟩, ⟨below_set HB.1 (Nat.le_refl _)⟩⟩
   case round =>
    obtain ⟨k, rfl, hr, HT, HB⟩ := hrel
    by_cases hkn : k < n
    ·clear f0 c0; have s1 : IntKind.i64.wrap ((n : Int) - 1) = (n : Int) - 1 := IntWalk.i64_in _ (by omega)
     have t1 : ((n : Int) - 1).toNat = n - 1 := by omega
     have s2 : IntKind.i64.wrap ((k : Int) + 1) = (k : Int) + 1 := IntWalk.i64_in _ (by omega)
     have t2 : ((k : Int) + 1).toNat = k + 1 := by omega
     have p1 : (0 : Int) ≤ (n : Int) - 1 := by omega
     have q0 : (n : Int) < 25 := by omega
     have q1 : (n : Int) - 1 < 25 := by omega
     have q2 : (k : Int) + 1 < 25 := by omega
     have q3 : (k : Int) < 25 := by omega
     have p2 : (1 : Int) ≤ (n : Int) := by omega
     have p3 : (0 : Int) ≤ (k : Int) + 1 := by omega
     have p4 : (0 : Int) ≤ (k : Int) := by omega
     have p5 : (0 : Int) ≤ (n : Int) := by omega
     have c1 := HT.1.cell ((n - 1) * 25 + k) (by omega); have c2 := HT.1.cell ((n - 1) * 25 + (k + 1)) (by omega); have c3 := HT.1.cell (n * 25 + (k + 1)) (by omega); have f3 := HT.1.free (n * 25 + (k + 1)); rw [tabF_up n k k (by omega) (by omega)] at c1; rw [tabF_up n k (k + 1) (by omega) (by omega)] at c2
     have HV := ak (show wrap64 ((bin (n - 1) k : Int) + (bin (n - 1) (k + 1) : Int)) = (tabF n (k + 1) (n * 25 + (k + 1)) : Int) by
      rw [tabF_at n k (by omega)]; have := bin_lt (n := n - 1) (k := k) (by omega); have := bin_lt (n := n - 1) (k := k + 1) (by omega); obtain ⟨m, rfl⟩ : ∃ m, n = m + 1 := ⟨n - 1, by omega⟩; simp only [bin_succ, Nat.add_sub_cancel] at *
      unfold wrap64
      omega)
     have HKK := ak (fun (v : Value) => show (wr.setCell ⟨w.heap.size, n * 25 + (k + 1), none⟩ v).drew.cell? ⟨w.heap.size, (n - 1) * 25 + k, none⟩ = _ ∧ (wr.setCell ⟨w.heap.size, n * 25 + (k + 1), none⟩ v).drew.cell? ⟨w.heap.size, (n - 1) * 25 + (k + 1), none⟩ = _ from ⟨(cell_off_ne wr _ _ _ v (by omega)).trans c1, (cell_off_ne wr _ _ _ v (by omega)).trans c2⟩)
     go_wp2_with fail
     go_region_held3 (fun w' => w'.cell? ⟨w.heap.size, (n - 1) * 25 + k, none⟩ = some (.int .i64 (bin (n - 1) k : Int)) ∧ w'.cell? ⟨w.heap.size, (n - 1) * 25 + (k + 1), none⟩ = some (.int .i64 (bin (n - 1) (k + 1) : Int))) (first | exact HKK.1 _ | go_keep) (fail)
     go_wp2
     go_roundg (gk - 1)
     case measure => have := hr.1; omega
     case rel => exact ⟨k + 1, by first | rfl | simp, ⟨by have := hr.1; omega⟩, ⟨show TabBlk (wr.setCell _ _) _ _ from HT.1.set (n * 25 + (k + 1)) (by omega) _ HV.1 (fun c _ hc => tabF_other n k c hc)⟩, ⟨below_drew1 (below_set HB.1 (Nat.le_refl _))⟩⟩
    ·have : k = n := by have := hr.1; omega
     subst this; have HT2 := ak (HT.1.congr (fun c _ => (tabF_last k c).symm)); clear HT f0 c0
     go_wp2
     go_roundg (24 - k)
     case measure => have := hk.1; omega
     case rel => exact ⟨k + 1, by first | rfl | simp, ⟨by have := hk.1; omega⟩, HT2, HB⟩
  ·have : n = 25 := by have := hk.1; omega
   subst this
   go_wp2
   go_ret
   exact ⟨_, rfl, Nat.le_refl _, HT.1, HB.1⟩
def cnt (n k : Int) : Int := if n < 1 then 0 else if 24 < n then 0 else if k < 1 then 0 else if n < k then 0 else n * (bin (n - 1).toNat (k - 1).toNat : Int)
def layout_Count.f (a0 a1 : Int) : Option Int := some (cnt a0 a1)
theorem TabBlk.cells {w : World} {g : Nat} (h : TabBlk w g (tabG 25)) (i j : Nat) (hi : i < 25) (hj : j < 25) : w.cell? ⟨g, i * 25 + j, none⟩ = some (.int .i64 (bin i j : Int)) := by
 rw [h.cell _ (by omega), tabG_at i j hi hj]
theorem mul_bin_wrap {n j : Nat} (hn : n ≤ 24) : wrap64 ((n : Int) * (bin (n - 1) j : Int)) = (n : Int) * (bin (n - 1) j : Int) := by
 have h1 : n * bin (n - 1) j ≤ 24 * 16777216 := Nat.mul_le_mul hn (bin_lt (by omega))
 have h2 : (n : Int) * (bin (n - 1) j : Int) = ((n * bin (n - 1) j : Nat) : Int) := by simp
 rw [h2]
 unfold wrap64
 omega
set_option maxHeartbeats 400000 in
theorem layout_Count.calls (a0 a1 : Int) (r : Int) (w : World) (h : layout_Count.f a0 a1 = some r) :
  Calls Try.prog 27 #[.int .i64 a0, .int .i64 a1] w fun e w' => e = .returned (.int .i64 r) ∧ Below w.heap.size w w' := by
 obtain rfl := Option.some.inj h; clear h
 by_cases h1 : a0 < 1
 ·have hv := ak (show cnt a0 a1 = 0 by unfold cnt; rw [if_pos h1]); have b1 : decide (a0 < 1) = true := decide_eq_true h1; clear h1
  go_enter Try.func27, Try.ntmps27
  go_wp2
  go_ret
  exact ⟨by rw [hv.1]; rfl, Below.refl _ _⟩
 by_cases h2 : 24 < a0
 ·have hv := ak (show cnt a0 a1 = 0 by unfold cnt; rw [if_neg h1, if_pos h2]); have b1 : decide (a0 < 1) = false := decide_eq_false h1; have b2 : decide (a0 > 24) = true := decide_eq_true h2; clear h1 h2
  go_enter Try.func27, Try.ntmps27
  go_wp2
  go_ret
  exact ⟨by rw [hv.1]; rfl, Below.refl _ _⟩
 by_cases h3 : a1 < 1
 ·have hv := ak (show cnt a0 a1 = 0 by unfold cnt; rw [if_neg h1, if_neg h2, if_pos h3]); have b1 : decide (a0 < 1) = false := decide_eq_false h1; have b2 : decide (a0 > 24) = false := decide_eq_false h2; have b3 : decide (a1 < 1) = true := decide_eq_true h3; clear h1 h2 h3
  go_enter Try.func27, Try.ntmps27
  go_wp2
  go_ret
  exact ⟨by rw [hv.1]; rfl, Below.refl _ _⟩
 by_cases h4 : a0 < a1
 ·have hv := ak (show cnt a0 a1 = 0 by unfold cnt; rw [if_neg h1, if_neg h2, if_neg h3, if_pos h4]); have b1 : decide (a0 < 1) = false := decide_eq_false h1; have b2 : decide (a0 > 24) = false := decide_eq_false h2; have b3 : decide (a1 < 1) = false := decide_eq_false h3; have b4 : decide (a1 > a0) = true := decide_eq_true h4; clear h1 h2 h3 h4
  go_enter Try.func27, Try.ntmps27
  go_wp2
  go_ret
  exact ⟨by rw [hv.1]; rfl, Below.refl _ _⟩
 have hv := ak (show cnt a0 a1 = a0 * (bin (a0 - 1).toNat (a1 - 1).toNat : Int) by unfold cnt; rw [if_neg h1, if_neg h2, if_neg h3, if_neg h4]); have b1 : decide (a0 < 1) = false := decide_eq_false h1; have b2 : decide (a0 > 24) = false := decide_eq_false h2; have b3 : decide (a1 < 1) = false := decide_eq_false h3; have b4 : decide (a1 > a0) = false := decide_eq_false h4; obtain ⟨n, rfl⟩ : ∃ n : Nat, a0 = n := ⟨a0.toNat, by omega⟩; obtain ⟨k, rfl⟩ : ∃ n : Nat, a1 = n := ⟨a1.toNat, by omega⟩; have s1 : IntKind.i64.wrap ((n : Int) - 1) = (n : Int) - 1 := IntWalk.i64_in _ (by omega); have s2 : IntKind.i64.wrap ((k : Int) - 1) = (k : Int) - 1 := IntWalk.i64_in _ (by omega)
 have t1 : ((n : Int) - 1).toNat = n - 1 := by omega
 have t2 : ((k : Int) - 1).toNat = k - 1 := by omega
 have p1 : (0 : Int) ≤ (n : Int) - 1 := by omega
 have p2 : (1 : Int) ≤ (n : Int) := by omega
 have p3 : (0 : Int) ≤ (k : Int) - 1 := by omega
 have p4 : (1 : Int) ≤ (k : Int) := by omega
 have q1 : (n : Int) - 1 < 25 := by omega
 have q2 : (k : Int) - 1 < 25 := by omega
 go_enter Try.func27, Try.ntmps27
 go_wp2_with (go_at_call 64; refine (layout_choose.calls _).mono ?_; rintro e w1 ⟨g, rfl, hg, hT, hb⟩; have HT := ak hT; have HB := ak hb; have HG := ak hg; have c1 := hT.cells (n - 1) (k - 1) (by omega) (by omega); clear hT hb hg)
 go_ret
 have e1 : wrap64 ((n : Int) * (bin (n - 1) (k - 1) : Int)) = cnt n k := by rw [hv.1, t1, t2]; exact mul_bin_wrap (by omega)
 exact ⟨congrArg (fun x => Ending.returned (.int .i64 x)) e1, HB.1⟩
def layout_Rank.f (l : List Bool) (t : Int) : Option Int := if okL l t = true then some (rankN l t.toNat : Int) else none
set_option maxHeartbeats 1000000 in
set_option maxRecDepth 100000 in
theorem layout_Rank.calls (A0_0 : Option Addr) (c0_0 : Nat) (l0_0 : List Bool) (a0_1 : Int) (r : Int) (w : World) (hr0_0 : Kd.C Kd.bool w A0_0 l0_0.length l0_0) (hc0_0 : l0_0.length ≤ c0_0) (h : layout_Rank.f l0_0 a0_1 = some r) :
  Calls Try.prog 31 #[.agg #[.slice A0_0 l0_0.length c0_0, .int .i64 a0_1]] w fun e w' => e = .returned (.int .i64 r) ∧ Below w.heap.size w w' := by
 unfold layout_Rank.f at h
 have hok : okL l0_0 a0_1 = true := by
  by_cases e : okL l0_0 a0_1 = true
  ·exact e
  ·rw [if_neg e] at h; cases h
 rw [if_pos hok] at h; obtain rfl := Option.some.inj h; clear h; obtain ⟨h1, h2, h3, h4, h5⟩ := okL_iff.1 hok; obtain ⟨t, rfl⟩ : ∃ n : Nat, a0_1 = n := ⟨a0_1.toNat, by omega⟩; rw [Int.toNat_natCast] at h5 ⊢; clear hok; have HC0 := ak hc0_0; have HR0 := ak hr0_0; have HH5 := ak h5
 have htl : t < l0_0.length := by omega
 clear hc0_0 hr0_0 h5; obtain ⟨ad, rfl, hcell⟩ := bool_cells HR0.1 (by omega); have HCELL := ak hcell; clear hcell; have HB := ak (Below.refl w.heap.size w); have hu27 := Try.underlying27; have hs1 := oth_shel t 0 l0_0 (by omega) (by rw [Nat.sub_zero]; exact HH5.1); have hs2 := shel_le l0_0; have hs3 := ak hs1; clear hs1; obtain ⟨s, hs⟩ : ∃ s : Nat, s = shel l0_0 := ⟨_, rfl⟩; rw [← hs] at hs2; have HS := ak hs
 have hspos : 1 ≤ s := by have := hs3.1; have := HS.1; omega
 clear hs
 go_enter Try.func31, Try.ntmps31
 go_wp2_with (first | ((with_reducible refine gate_dst (N := 1) rfl ?_); refine box_event ?hg (N := 1) ?hd (cs := #[.slice (some ad) l0_0.length c0_0, .int .i64 (t : Int)]) (t := 27) ?hr ?_; (case hd => rfl); (case hg => rfl); (case hr => first | (go_simp; done) | (go_simp; rfl)); intro gb hg w2 hbox hb; have HB2 := ak (below_step HB.1 hb); have BK := ak hbox; have GE := ak (show w.heap.size ≤ gb by omega); have b0 := blk_cell hbox 0; have b1 := blk_cell hbox 1; clear hbox hb hg HB; try simp at b0 b1) | (go_at_call 64; refine (layout_choose.calls _).mono ?_; rintro e w3 ⟨g, rfl, hg, hT, hb⟩; have HT := ak hT; have HB := ak (below_step HB2.1 hb); have BK3 := ak (blk_below BK.1 hb); have b0 := blk_cell BK3.1 0; have b1 := blk_cell BK3.1 1; clear hT hb hg BK HB2; try simp at b0 b1))
 have HT0 := ak (HT.1.cells (l0_0.length - 1) (s - 1) (by omega) (by omega))
 have HK := ak (fun (W W' : World) (hb : Below W.heap.size W W') (hW : W = w3.drew) => show W'.heap[gb]? = some (.cells #[.slice (some ad) l0_0.length c0_0, .int .i64 (t : Int)] 27 (0, 0)) ∧ TabBlk W' g (tabG 25) ∧ Below w.heap.size w W' from by
  subst hW; obtain ⟨A, hA, hA1, hA2⟩ := HT.1
  exact ⟨blk_below (blk_drew BK3.1) hb, ⟨A, blk_below (blk_drew hA) hb, hA1, hA2⟩, below_step (below_drew1 HB.1) hb⟩)
 clear HT; have HSH := ak (shelves_f l0_0 t (by omega)); rw [← HS.1] at HSH
 go_region_held3 (fun w' => w'.cell? ⟨gb, 0, none⟩ = some (.slice (some ad) l0_0.length c0_0) ∧ w'.cell? ⟨gb, 1, none⟩ = some (.int .i64 (t : Int))) (first | exact ⟨b0, b1⟩ | exact ⟨blk_cell (HK.1 _ _ HBN.1 rfl).1 0, blk_cell (HK.1 _ _ HBN.1 rfl).1 1⟩) ((go_at_call 32; refine (layout_Shelves.calls _ _ _ l0_0 _ _ _ (Kd.C_below HR0.1 ?_) HC0.1 HSH.1).mono ?_; (exact below_drew1 HB.1); rintro e w4 ⟨rfl, hb⟩; have HBN := ak hb; clear hb))
 obtain ⟨BK4, HT4, HB4⟩ := HK.1 _ _ HBN.1 rfl; replace BK4 := ak BK4; replace HT4 := ak HT4; replace HB4 := ak HB4; clear HK HBN HB BK3 b0 b1; have b0 := blk_cell BK4.1 0; have b1 := blk_cell BK4.1 1
 try simp at b0 b1
 have c1 := HT4.1.cells (l0_0.length - 1) (s - 1) (by omega) (by omega); have s1 : IntKind.i64.wrap ((l0_0.length : Int) - 1) = (l0_0.length : Int) - 1 := IntWalk.i64_in _ (by omega); have s2 : IntKind.i64.wrap ((s : Int) - 1) = (s : Int) - 1 := IntWalk.i64_in _ (by omega)
 have t1 : ((l0_0.length : Int) - 1).toNat = l0_0.length - 1 := by omega
 have t2 : ((s : Int) - 1).toNat = s - 1 := by omega
 have p1 : (0 : Int) ≤ (l0_0.length : Int) - 1 := by omega
 have p2 : (1 : Int) ≤ (l0_0.length : Int) := by omega
 have p3 : (0 : Int) ≤ (s : Int) - 1 := by omega
 have p4 : (1 : Int) ≤ (s : Int) := by omega
 have q1 : (l0_0.length : Int) - 1 < 25 := by omega
 have q2 : (s : Int) - 1 < 25 := by omega
 have q3 : (l0_0.length : Int) < 26 := by omega
 have q4 : (s : Int) < 26 := by omega
 go_wp2_with fail
 go_quiet (fail)
 go_wp2_with fail
 have HE := ak (show wrap64 ((t : Int) * (bin (l0_0.length - 1) (s - 1) : Int)) = ((t * bin (l0_0.length - 1) (s - 1) : Nat) : Int) by
  have e1 : t * bin (l0_0.length - 1) (s - 1) ≤ 24 * 16777216 := Nat.mul_le_mul (by omega) (bin_lt (by omega)); rw [show ((t : Int) * (bin (l0_0.length - 1) (s - 1) : Int)) = ((t * bin (l0_0.length - 1) (s - 1) : Nat) : Int) by simp]
  exact wrap_id (by omega) (by omega))
 have HN := ak (show t * bin (l0_0.length - 1) (s - 1) + rk (oth t 0 (l0_0.drop 0)) = rankN l0_0 t by rw [List.drop_zero, HS.1]; rfl); have HM := ak (rankN_le (l := l0_0) (t := t) h2 htl); have HO0 := ak (oth_len t 0 l0_0 (by omega) (by omega)); clear c1 s1 s2 t1 t2 p1 p2 p3 p4 q1 q2 q3 q4
 go_loopg [6, 7, 8, 36] l0_0.length (fun kq v6 v7 v8 v36 w' => ∃ (i q left need : Nat), v36 = .int .i64 (i : Int) ∧ v6 = .int .i64 (q : Int) ∧ v7 = .int .i64 (left : Int) ∧ v8 = .int .i64 (need : Int) ∧ Aside0 (kq + i = l0_0.length) ∧ Aside0 (q + rk (oth t i (l0_0.drop i)) = rankN l0_0 t) ∧ Aside0 (left = (oth t i (l0_0.drop i)).length) ∧ Aside0 (need = shel (oth t i (l0_0.drop i))) ∧ Aside0 (w'.heap[gb]? = some (.cells #[.slice (some ad) l0_0.length c0_0, .int .i64 (t : Int)] 27 (0, 0))) ∧ Aside0 (TabBlk w' g (tabG 25)) ∧ Aside0 (Below w.heap.size w w'))
 case atStart => exact ⟨0, t * bin (l0_0.length - 1) (s - 1), l0_0.length - 1, s - 1, rfl, by rw [HE.1], by have := h1; rw [show ((l0_0.length - 1 : Nat) : Int) = (l0_0.length : Int) - 1 by omega], by rw [show ((s - 1 : Nat) : Int) = (s : Int) - 1 by omega], ⟨by omega⟩, HN, ⟨by have := HO0.1; rw [List.drop_zero]; omega⟩, ⟨by have := hs3.1; have := HS.1; rw [List.drop_zero]; omega⟩, ⟨BK4.1⟩, ⟨HT4.1.drewN _⟩, ⟨pw_below_drewN HB4.1 _⟩⟩
 case round =>
  obtain ⟨i, q, left, need, rfl, rfl, rfl, rfl, HI, HQ, HL, HD, BK, HT, HB⟩ := hrel; clear BK4 HT4 HB4 b0 b1; have b0 := blk_cell BK.1 0; have b1 := blk_cell BK.1 1
  try simp at b0 b1
  by_cases hi : i < l0_0.length
  ·have hib : decide ((i : Int) < (l0_0.length : Int)) = true := decide_eq_true (by omega)
   have hi2 : (i : Int) < (l0_0.length : Int) := by omega
   have hO := oth_drop t l0_0 i hi; obtain ⟨bv, hbv⟩ : ∃ b : Bool, b = l0_0.getD i false := ⟨_, rfl⟩; rw [← hbv] at hO
   have hcl : wr.cell? (ad.add i) = some (.bool bv) := by
    rw [hbv]; exact (HB.1.cell (World.block_lt_of_cell? w _ (HCELL.1 i hi))).trans (HCELL.1 i hi)
   clear hbv; have HO := ak hO; clear hO
   by_cases hit : i = t
   ·have HQ2 := ak (show q + rk (oth t (i + 1) (l0_0.drop (i + 1))) = rankN l0_0 t by have := HQ.1; rw [HO.1, if_pos hit] at this; exact this); have HL2 := ak (show left = (oth t (i + 1) (l0_0.drop (i + 1))).length by have := HL.1; rw [HO.1, if_pos hit] at this; exact this); have HD2 := ak (show need = shel (oth t (i + 1) (l0_0.drop (i + 1))) by have := HD.1; rw [HO.1, if_pos hit] at this; exact this); clear HQ HL HD HO; subst hit
    have e1 : ((i : Int) == (i : Int)) = true := by simp
    go_wp2
    go_roundg (gk - 1)
    case measure => have := HI.1; omega
    case rel => exact ⟨i + 1, q, left, need, by simp, rfl, rfl, rfl, ⟨by have := HI.1; omega⟩, HQ2, HL2, HD2, BK, HT, HB⟩
   ·have e1 : ((i : Int) == (t : Int)) = false := beq_eq_false_iff_ne.2 (by omega); have HQ2 := ak (show q + rk (bv :: oth t (i + 1) (l0_0.drop (i + 1))) = rankN l0_0 t by have := HQ.1; rw [HO.1, if_neg hit] at this; exact this); have HL2 := ak (show left = (oth t (i + 1) (l0_0.drop (i + 1))).length + 1 by have := HL.1; rw [HO.1, if_neg hit] at this; exact this); have HD2 := ak (show need = (if bv then 1 else 0) + shel (oth t (i + 1) (l0_0.drop (i + 1))) by have := HD.1; rw [HO.1, if_neg hit, shel_cons] at this; exact this); have HX := ak (shel_le (oth t (i + 1) (l0_0.drop (i + 1)))); clear HQ HL HD HO hit; obtain ⟨R, hR⟩ : ∃ R, R = oth t (i + 1) (l0_0.drop (i + 1)) := ⟨_, rfl⟩; rw [← hR] at HQ2 HL2 HD2 HX; have HR := ak hR; clear hR
    have hlm : left ≤ l0_0.length := by have := HL2.1; have h9 := HR.1; have h8 := oth_len_le t (i + 1) (l0_0.drop (i + 1)); rw [← h9, List.length_drop] at h8; omega
    have l1 : (1 : Int) ≤ (left : Int) := by have := HL2.1; omega
    have l2 : (left : Int) ≤ 24 := by omega
    have l3 : (0 : Int) ≤ (left : Int) - 1 := by omega
    cases bv with
    | true =>
     have n1 : (1 : Int) ≤ (need : Int) := by have := HD2.1; simp at this; omega
     have n2 : (need : Int) ≤ 24 := by have := HD2.1; have := HX.1; have := HL2.1; simp at *; omega
     go_wp2
     go_roundg (gk - 1)
     case measure => have := HI.1; omega
     case rel => exact ⟨i + 1, q, left - 1, need - 1, by simp, rfl, by rw [show ((left - 1 : Nat) : Int) = (left : Int) - 1 by omega], by rw [show ((need - 1 : Nat) : Int) = (need : Int) - 1 by omega], ⟨by have := HI.1; omega⟩, ⟨by have := HQ2.1; rw [← HR.1]; exact this⟩, ⟨by have := HL2.1; rw [← HR.1]; omega⟩, ⟨by have := HD2.1; rw [← HR.1]; simp at this; omega⟩, BK, HT, HB⟩
    | false =>
     have hneed : need = shel R := by have := HD2.1; simpa using this
     have HNE := ak hneed
     by_cases hn : 0 < need
     ·have n0 : decide ((need : Int) > 0) = true := decide_eq_true (by omega)
      have n1 : (1 : Int) ≤ (need : Int) := by omega
      have n2 : (need : Int) ≤ 24 := by have := HX.1; have := HL2.1; omega
      have n3 : (0 : Int) ≤ (need : Int) - 1 := by omega
      have n4 : (need : Int) - 1 < 25 := by omega
      have l4 : (left : Int) - 1 < 25 := by omega
      have l5 : (left : Int) < 26 := by omega
      have n5 : (need : Int) < 26 := by omega
      have m1 : ((left : Int) - 1).toNat = left - 1 := by omega
      have m2 : ((need : Int) - 1).toNat = need - 1 := by omega
      have c1 := HT.1.cells (left - 1) (need - 1) (by omega) (by omega)
      have HQ3 := ak (show q + bin (left - 1) (need - 1) + rk R = rankN l0_0 t by
       have := HQ2.1; rw [rk, ← hneed, if_pos hn, show R.length = left - 1 by have := HL2.1; omega] at this
       omega)
      clear hneed
      have g1 : (0 : Int) ≤ (q : Int) + (bin (left - 1) (need - 1) : Int) := by omega
      have g2 : (q : Int) + (bin (left - 1) (need - 1) : Int) ≤ 500000000 := by have := HQ3.1; have := HM.1; omega
      go_wp2
      go_roundg (gk - 1)
      case measure => have := HI.1; omega
      case rel => exact ⟨i + 1, q + bin (left - 1) (need - 1), left - 1, need, by simp, by simp, by rw [show ((left - 1 : Nat) : Int) = (left : Int) - 1 by omega], rfl, ⟨by have := HI.1; omega⟩, ⟨by have := HQ3.1; rw [← HR.1]; exact this⟩, ⟨by have := HL2.1; rw [← HR.1]; omega⟩, ⟨by have := HNE.1; rw [← HR.1]; exact this⟩, BK, HT, HB⟩
     ·have n0 : decide ((need : Int) > 0) = false := decide_eq_false (by omega)
      obtain rfl : need = 0 := by omega
      clear hneed
      go_wp2
      go_roundg (gk - 1)
      case measure => have := HI.1; omega
      case rel => exact ⟨i + 1, q, left - 1, 0, by simp, rfl, by rw [show ((left - 1 : Nat) : Int) = (left : Int) - 1 by omega], rfl, ⟨by have := HI.1; omega⟩, ⟨by have := HQ2.1; have h0 := HNE.1; rw [rk, if_neg (by omega), Nat.zero_add] at this; rw [← HR.1]; exact this⟩, ⟨by have := HL2.1; rw [← HR.1]; omega⟩, ⟨by have := HNE.1; rw [← HR.1]; exact this⟩, BK, HT, HB⟩
  ·have hie : i = l0_0.length := by have := HI.1; omega
   have hib : decide ((i : Int) < (l0_0.length : Int)) = false := decide_eq_false (by omega); have HF := ak (show q = rankN l0_0 t by have := HQ.1; rw [hie, List.drop_of_length_le (by omega)] at this; exact this); clear hie
   go_wp2
   go_ret
   exact ⟨by rw [HF.1]; rfl, HB.1⟩
end Go.Proofs.Ytogmjilaiopjmaa.P
end
section
namespace Go.Proofs.Ytogmjilaiopjmaa.P
def unr : Nat → Nat → Nat → List Bool
 | 0, _, _ => []
 | m + 1, need, r => if need = 0 then false :: unr m 0 r else if r < bin m (need - 1) then true :: unr m (need - 1) r else false :: unr m need (r - bin m (need - 1))
def insT : Nat → List Bool → List Bool
 | 0, l => true :: l
 | _ + 1, [] => []
 | t + 1, b :: l => b :: insT t l
def unrRest (t i m need r : Nat) : List Bool := if i ≤ t then insT (t - i) (unr m need r) else unr m need r
def cntN (n k : Nat) : Nat := n * bin (n - 1) (k - 1)
def unrT (n k r : Nat) : Nat := r / bin (n - 1) (k - 1)
def unrL (n k r : Nat) : List Bool := insT (unrT n k r) (unr (n - 1) (k - 1) (r % bin (n - 1) (k - 1)))
theorem unrRest_zero (n k r : Nat) : unrRest (unrT n k r) 0 (n - 1) (k - 1) (r % bin (n - 1) (k - 1)) = unrL n k r := by
 unfold unrRest unrL
 rw [if_pos (by omega), Nat.sub_zero]
theorem unrRest_at (t m need r : Nat) : unrRest t t m need r = true :: unrRest t (t + 1) m need r := by
 unfold unrRest
 rw [if_pos (Nat.le_refl _), if_neg (by omega), Nat.sub_self]; rfl
theorem unrRest_step {t i m need r need' r' : Nat} {b : Bool} (h : i ≠ t) (he : unr (m + 1) need r = b :: unr m need' r') : unrRest t i (m + 1) need r = b :: unrRest t (i + 1) m need' r' := by
 unfold unrRest
 by_cases hi : i ≤ t
 ·rw [if_pos hi, if_pos (by omega), he, show t - i = (t - (i + 1)) + 1 by omega]; rfl
 ·rw [if_neg hi, if_neg (by omega), he]
theorem unr_none (m r : Nat) : unr (m + 1) 0 r = false :: unr m 0 r := by rw [unr, if_pos rfl]
theorem unr_yes {m need r : Nat} (h : 0 < need) (hr : r < bin m (need - 1)) : unr (m + 1) need r = true :: unr m (need - 1) r := by rw [unr, if_neg (by omega), if_pos hr]
theorem unr_no {m need r : Nat} (h : 0 < need) (hr : ¬ r < bin m (need - 1)) : unr (m + 1) need r = false :: unr m need (r - bin m (need - 1)) := by rw [unr, if_neg (by omega), if_neg hr]
theorem unr_len : ∀ m need r, (unr m need r).length = m
 | 0, _, _ => rfl
 | m + 1, need, r => by
  rw [unr]
  split
  ·simp [unr_len m]
  ·split <;> simp [unr_len m]
theorem insT_len : ∀ (t : Nat) (l : List Bool), t ≤ l.length → (insT t l).length = l.length + 1
 | 0, l, _ => rfl
 | t + 1, [], h => by simp at h
 | t + 1, b :: l, h => by simp [insT, insT_len t l (by simpa using h)]
theorem unrT_lt {n k r : Nat} (h : r < cntN n k) : unrT n k r < n := by
 unfold unrT
 unfold cntN at h
 exact Nat.div_lt_of_lt_mul (by rwa [Nat.mul_comm])
theorem unrL_len {n k r : Nat} (h : r < cntN n k) : (unrL n k r).length = n := by
 have := unrT_lt h
 unfold unrL
 rw [insT_len _ _ (by rw [unr_len]; omega), unr_len]
 omega
theorem set_grow (d : List Bool) (m : Nat) (h : 0 < m) : (d ++ List.replicate m false).set d.length true = (d ++ [true]) ++ List.replicate (m - 1) false := by
 obtain ⟨k, rfl⟩ : ∃ k, m = k + 1 := ⟨m - 1, by omega⟩; rw [List.replicate_succ, List.set_append_right _ _ (Nat.le_refl _), Nat.sub_self, List.set_cons_zero]
 simp
theorem keep_grow (d : List Bool) (m : Nat) (h : 0 < m) : d ++ List.replicate m false = (d ++ [false]) ++ List.replicate (m - 1) false := by
 obtain ⟨k, rfl⟩ : ∃ k, m = k + 1 := ⟨m - 1, by omega⟩; rw [List.replicate_succ]
 simp
end Go.Proofs.Ytogmjilaiopjmaa.P
end
section
namespace Go.Proofs.Ytogmjilaiopjmaa.P
open Go.RowKit Go.Proofs.YtogmjilaiopjmaaW.PrintWords Go.Proofs.YtogmjilaiopjmaaW.PrintLast Go.Proofs.YtogmjilaiopjmaaW.PrintMore
def layout_Unrank.f (n k r : Int) : Option (List Bool × Int × Bool) := if 0 ≤ r ∧ r < cnt n k then some (unrL n.toNat k.toNat r.toNat, (unrT n.toNat k.toNat r.toNat : Int), true) else some ([], 0, false)
set_option maxHeartbeats 1000000 in
set_option maxRecDepth 100000 in
theorem unrank_no (a0 a1 a2 : Int) (w : World) (h : ¬ (0 ≤ a2 ∧ a2 < cnt a0 a1)) :
  Calls Try.prog 28 #[.int .i64 a0, .int .i64 a1, .int .i64 a2] w fun e w' => ∃ v0_ : Value, e = .returned (.tuple #[.agg #[v0_, .int .i64 0], .bool false]) ∧ Kd.R Kd.bool 4 w' w.heap.size (fun _ => True) v0_ [] ∧ Below w.heap.size w w' := by
 have hu27 := Try.underlying27; have HB := ak (Below.refl w.heap.size w); have HH := ak h; clear h
 by_cases h2 : a2 < 0
 ·have b2 : decide (a2 < 0) = true := decide_eq_true h2; clear h2
  go_enter Try.func28, Try.ntmps28
  go_wp2_with (first | ((with_reducible refine gate_dst (N := 6) rfl ?_); refine box_event ?hg (N := 6) ?hd (cs := #[.slice none 0 0, .int .i64 0]) (t := 27) ?hr ?_; (case hd => rfl); (case hg => rfl); (case hr => first | (go_simp; done) | (go_simp; rfl)); intro gb hg w2 hbox hb; have HB2 := ak (below_step HB.1 hb); have BK := ak hbox; have GE := ak (show w.heap.size ≤ gb by omega); have b0 := blk_cell hbox 0; have b1 := blk_cell hbox 1; have f0 := blk_frozen hbox 0; have f1 := blk_frozen hbox 1; clear hbox hb hg HB; try simp at b0 b1))
  refine bodyPost_ret (results_ct rfl _ _ gb 27 #[.slice none 0 0, .int .i64 0] (0, 0) _ rfl (by refine blk_put (cs := #[.slice none 0 0, .int .i64 0]) ?_ 1 _ rfl; refine blk_put (cs := #[.slice none 0 0, .int .i64 0]) ?_ 0 _ rfl; exact BK.1) Try.underlying27 rfl (by kernel_rfl)) rfl ?_; exact ⟨_, rfl, Kd.R_nil _ _ _ _ _, below_set (below_set HB2.1 GE.1) GE.1⟩
 ·have b2 : decide (a2 < 0) = false := decide_eq_false h2; have b3 : decide (a2 ≥ cnt a0 a1) = true := decide_eq_true (by have := HH.1; omega); clear h2
  go_enter Try.func28, Try.ntmps28
  go_wp2_with (first | ((with_reducible refine gate_dst (N := 6) rfl ?_); refine box_event ?hg (N := 6) ?hd (cs := #[.slice none 0 0, .int .i64 0]) (t := 27) ?hr ?_; (case hd => rfl); (case hg => rfl); (case hr => first | (go_simp; done) | (go_simp; rfl)); intro gb hg w2 hbox hb; have HB2 := ak (below_step HB.1 hb); have BK := ak hbox; have GE := ak (show w.heap.size ≤ gb by omega); have b0 := blk_cell hbox 0; have b1 := blk_cell hbox 1; have f0 := blk_frozen hbox 0; have f1 := blk_frozen hbox 1; clear hbox hb hg HB; try simp at b0 b1) | (go_at_call 27; refine (layout_Count.calls a0 a1 _ _ rfl).mono ?_; rintro e w3 ⟨rfl, hb⟩; have HB := ak (below_step HB2.1 hb); have BK3 := ak (blk_below BK.1 hb); clear BK HB2 b0 b1 f0 f1; have BK := BK3; have HB2 := HB; clear BK3 HB; have b0 := blk_cell BK.1 0; have b1 := blk_cell BK.1 1; have f0 := blk_frozen BK.1 0; have f1 := blk_frozen BK.1 1; clear hb; try simp at b0 b1))
  refine bodyPost_ret (results_ct rfl _ _ gb 27 #[.slice none 0 0, .int .i64 0] (0, 0) _ rfl (by refine blk_put (cs := #[.slice none 0 0, .int .i64 0]) ?_ 1 _ rfl; refine blk_put (cs := #[.slice none 0 0, .int .i64 0]) ?_ 0 _ rfl; exact BK.1) Try.underlying27 rfl (by kernel_rfl)) rfl ?_; exact ⟨_, rfl, Kd.R_nil _ _ _ _ _, below_set (below_set HB2.1 GE.1) GE.1⟩
set_option maxHeartbeats 2000000 in
set_option maxRecDepth 100000 in
theorem unrank_yes (n k r : Nat) (w : World) (hn1 : 1 ≤ n) (hn2 : n ≤ 24) (hk1 : 1 ≤ k) (hk2 : k ≤ n) (hr : r < cntN n k) :
  Calls Try.prog 28 #[.int .i64 (n : Int), .int .i64 (k : Int), .int .i64 (r : Int)] w fun e w' => ∃ v0_ : Value, e = .returned (.tuple #[.agg #[v0_, .int .i64 (unrT n k r : Int)], .bool true]) ∧ Kd.R Kd.bool 4 w' w.heap.size (fun _ => True) v0_ (unrL n k r) ∧ Below w.heap.size w w' := by
 have hu27 := Try.underlying27; have HB := ak (Below.refl w.heap.size w)
 have HC := ak (show cnt (n : Int) (k : Int) = (cntN n k : Int) by
  unfold cnt cntN
  rw [if_neg (by omega), if_neg (by omega), if_neg (by omega), if_neg (by omega), show ((n : Int) - 1).toNat = n - 1 by omega, show ((k : Int) - 1).toNat = k - 1 by omega]
  simp)
 have HR := ak hr; have HTT := ak (unrT_lt hr); have HPOS := ak (bin_pos (n - 1) (k - 1) (by omega)); have HBL := ak (bin_lt (n := n - 1) (k := k - 1) (by omega)); have b2 : decide ((r : Int) < 0) = false := decide_eq_false (by omega); have b3 : decide ((r : Int) ≥ (cntN n k : Int)) = false := decide_eq_false (by omega); have b4 : decide (cntN n k ≤ r) = false := decide_eq_false (by omega); have s1 : IntKind.i64.wrap ((n : Int) - 1) = (n : Int) - 1 := IntWalk.i64_in _ (by omega); have s2 : IntKind.i64.wrap ((k : Int) - 1) = (k : Int) - 1 := IntWalk.i64_in _ (by omega)
 have t1 : ((n : Int) - 1).toNat = n - 1 := by omega
 have t2 : ((k : Int) - 1).toNat = k - 1 := by omega
 have p1 : (0 : Int) ≤ (n : Int) - 1 := by omega
 have p2 : (1 : Int) ≤ (n : Int) := by omega
 have p3 : (0 : Int) ≤ (k : Int) - 1 := by omega
 have p4 : (1 : Int) ≤ (k : Int) := by omega
 have q1 : (n : Int) - 1 < 25 := by omega
 have q2 : (k : Int) - 1 < 25 := by omega
 have q3 : (n : Int) < 26 := by omega
 have q4 : (k : Int) < 26 := by omega
 clear hr; obtain ⟨B, hB⟩ : ∃ B, B = bin (n - 1) (k - 1) := ⟨_, rfl⟩; rw [← hB] at HPOS HBL; have HBB := ak hB; clear hB; have d1 : ((B : Int) == 0) = false := beq_eq_false_iff_ne.2 (by have := HPOS.1; omega)
 have d2 : (1 : Int) ≤ (B : Int) := by have := HPOS.1; omega
 have d3 : (B : Int) ≤ 16777216 := by have := HBL.1; omega
 have hmk : ∀ W : World, (Instr.makeSlice 25 (.int .i64 (n : Int)) (.int .i64 (n : Int))).run Try.prog W = .ok (.slice (some ⟨W.heap.size, 0, none⟩) n n) (W.alloc (.cells (madeCells #[.bool false] n) 4)) := fun W => run_make_row' 25 4 (.bool false) 1 Try.underlying25 info4 rfl .i64 .i64 n (by omega) (by omega) W
 go_enter Try.func28, Try.ntmps28
 go_upto_region 4 with (first | ((with_reducible refine gate_dst (N := 6) rfl ?_); refine box_event ?hg (N := 6) ?hd (cs := #[.slice none 0 0, .int .i64 0]) (t := 27) ?hr ?_; (case hd => rfl); (case hg => rfl); (case hr => first | (go_simp; done) | (go_simp; rfl)); intro gb hg w2 hbox hb; have HB2 := ak (below_step HB.1 hb); have BK := ak hbox; have GE := ak (show w.heap.size ≤ gb by omega); have b0 := blk_cell hbox 0; have b1 := blk_cell hbox 1; have f0 := blk_frozen hbox 0; have f1 := blk_frozen hbox 1; clear hbox hb hg HB; try simp at b0 b1) | (go_at_call 27; refine (layout_Count.calls _ _ _ _ rfl).mono ?_; rintro e w3 ⟨rfl, hb⟩; rw [HC.1]; have HB := ak (below_step HB2.1 hb); have BK3 := ak (blk_below BK.1 hb); clear BK HB2 b0 b1 f0 f1; have BK := BK3; have HB2 := HB; clear BK3 HB; have b0 := blk_cell BK.1 0; have b1 := blk_cell BK.1 1; have f0 := blk_frozen BK.1 0; have f1 := blk_frozen BK.1 1; clear hb; try simp at b0 b1) | (go_at_call 64; refine (layout_choose.calls _).mono ?_; rintro e w4 ⟨g, rfl, hg, hT, hb⟩; have HT := ak hT; have HB := ak (below_step HB2.1 hb); have BK3 := ak (blk_below BK.1 hb); clear BK HB2 b0 b1 f0 f1; have BK := BK3; clear BK3; have b0 := blk_cell BK.1 0; have b1 := blk_cell BK.1 1; clear hT hb hg; try simp at b0 b1))
 have c1 := HT.1.cells (n - 1) (k - 1) (by omega) (by omega); rw [← HBB.1] at c1
 have d4 : ¬ B = 0 := by have := HPOS.1; omega
 have HE := ak (show wrap64 ((r : Int) / (B : Int)) = (unrT n k r : Int) by
  rw [show (r : Int) / (B : Int) = ((r / B : Nat) : Int) by simp]
  unfold unrT
  rw [← HBB.1]; have h0 : (0 : Int) ≤ ((r / B : Nat) : Int) := Int.natCast_nonneg _; have h1 := HTT.1
  unfold unrT at h1
  rw [← HBB.1] at h1
  have h2 : ((r / B : Nat) : Int) < 25 := by omega
  exact wrap_id (by omega) (by omega))
 have HE2 := ak (show IntKind.i64.wrap ((r : Int) / (B : Int)) = (unrT n k r : Int) by rw [i64_w]; exact HE.1)
 go_cut [9] (fun v9 wc => ∃ (g9 gs : Nat), v9 = .pointer (some ⟨g9, 0, none⟩) ∧ Aside0 (wc.heap[g9]? = some (.cells #[.slice (some ⟨gs, 0, none⟩) n n, .int .i64 (unrT n k r : Int)] 27 (0, 0))) ∧ Aside0 (BoolBlk wc gs (List.replicate n false)) ∧ Aside0 (wc.heap[gb]? = some (.cells #[.slice none 0 0, .int .i64 0] 27 (0, 0))) ∧ Aside0 (TabBlk wc g (tabG 25)) ∧ Aside0 (g9 ≠ gs) ∧ Aside0 (w.heap.size ≤ gs) ∧ Aside0 (w.heap.size ≤ g9) ∧ Aside0 (gb ≠ g9) ∧ Aside0 (gb ≠ gs) ∧ Aside0 (g ≠ g9) ∧ Aside0 (g ≠ gs) ∧ Aside0 (Below w.heap.size w wc))
 case first =>
  go_region_held3 (fun w' => w'.cell? ⟨g, (n - 1) * 25 + (k - 1), none⟩ = some (.int .i64 (B : Int))) (go_keep) (fail)
  all_goals go_wp2
  all_goals go_meet
  case rel => exact ⟨w4.heap.size + 1, w4.heap.size, rfl, ⟨by rw [HE2.1]; exact alloc2_snd w4 _ _⟩, ⟨by rw [made_bools]; exact alloc2_fst w4 _ _⟩, ⟨blk_alloc2 BK.1 _ _⟩, ⟨HT.1.move fun o h => blk_alloc2 h _ _⟩, ⟨by omega⟩, ⟨by have := HB.1.size; omega⟩, ⟨by have := HB.1.size; omega⟩, ⟨by have := blk_lt BK.1; omega⟩, ⟨by have := blk_lt BK.1; omega⟩, ⟨by have := HT.1.lt; omega⟩, ⟨by have := HT.1.lt; omega⟩, ⟨below_drew1 (below_alloc2 HB.1 _ _)⟩⟩
  case rel => exact ⟨w4.heap.size, w4.heap.size + 1, rfl, ⟨by rw [HE2.1]; exact alloc2_fst w4 _ _⟩, ⟨by rw [made_bools]; exact alloc2_snd w4 _ _⟩, ⟨blk_alloc2 BK.1 _ _⟩, ⟨HT.1.move fun o h => blk_alloc2 h _ _⟩, ⟨by omega⟩, ⟨by have := HB.1.size; omega⟩, ⟨by have := HB.1.size; omega⟩, ⟨by have := blk_lt BK.1; omega⟩, ⟨by have := blk_lt BK.1; omega⟩, ⟨by have := HT.1.lt; omega⟩, ⟨by have := HT.1.lt; omega⟩, ⟨below_drew1 (below_alloc2 HB.1 _ _)⟩⟩
 case rest =>
  obtain ⟨g9, gs, rfl, H9, HS, BK, HT, N1, G1, G2, N2, N3, N4, N5, HB⟩ := hcut; have c1 := HT.1.cells (n - 1) (k - 1) (by omega) (by omega); rw [← HBB.1] at c1
  go_wp2_with fail
  obtain ⟨T, hT⟩ : ∃ T, T = unrT n k r := ⟨_, rfl⟩; have HTN := ak (show T < n by rw [hT]; exact HTT.1); have HF0 := ak (show unrRest T 0 (n - 1) (k - 1) (r % B) = unrL n k r by rw [hT, HBB.1]; exact unrRest_zero n k r); rw [← hT] at H9; have HTQ := ak hT; clear hT b2 b3 b4 s1 s2 t1 t2 p1 p2 p3 p4 q1 q2 q4 d1 d2 d3 d4 c1 hmk HE HE2
  go_loopg [2, 10, 11, 54] n (fun kq v2 v10 v11 v54 w' => ∃ (i m need rr : Nat) (d : List Bool), v54 = .int .i64 (i : Int) ∧ v2 = .int .i64 (rr : Int) ∧ v10 = .int .i64 (m : Int) ∧ v11 = .int .i64 (need : Int) ∧ Aside0 (kq + i = n) ∧ Aside0 (d.length = i) ∧ Aside0 (d ++ unrRest T i m need rr = unrL n k r) ∧ Aside0 ((i ≤ T → m + i + 1 = n) ∧ (T < i → m + i = n)) ∧ Aside0 (need ≤ 23 ∧ rr ≤ 16777216) ∧ Aside0 (w'.heap[g9]? = some (.cells #[.slice (some ⟨gs, 0, none⟩) n n, .int .i64 (T : Int)] 27 (0, 0))) ∧ Aside0 (BoolBlk w' gs (d ++ List.replicate (n - i) false)) ∧ Aside0 (w'.heap[gb]? = some (.cells #[.slice none 0 0, .int .i64 0] 27 (0, 0))) ∧ Aside0 (TabBlk w' g (tabG 25)) ∧ Aside0 (Below w.heap.size w w'))
  case atStart => exact ⟨0, n - 1, k - 1, r % B, [], rfl, by simp, by rw [show ((n - 1 : Nat) : Int) = (n : Int) - 1 by omega], by rw [show ((k - 1 : Nat) : Int) = (k : Int) - 1 by omega], ⟨by omega⟩, ⟨rfl⟩, HF0, ⟨by omega⟩, ⟨by have h7 := Nat.mod_lt r (show 0 < B by have := HPOS.1; omega); have := HBL.1; omega⟩, H9, ⟨HS.1⟩, BK, HT, HB⟩
  case round =>
   obtain ⟨i, m, need, rr, d, rfl, rfl, rfl, rfl, HI, HD, HF, HM, HN, H9, HS, BK, HT, HB⟩ := hrel; have b0 := blk_cell H9.1 0; have b1 := blk_cell H9.1 1
   try simp at b0 b1
   by_cases hi : i < n
   ·have hib : decide ((i : Int) < (n : Int)) = true := decide_eq_true (by omega)
    have hi2 : (i : Int) < (n : Int) := by omega
    have hsl : (d ++ List.replicate (n - i) false).length = n := by have := HD.1; simp; omega
    have cs := HS.1.cell false i (by omega); have fs := HS.1.free i; obtain ⟨cv, hcv⟩ : ∃ cv, cv = Value.bool ((d ++ List.replicate (n - i) false).getD i false) := ⟨_, rfl⟩; rw [← hcv] at cs; clear hcv hsl
    have HST := ak (show BoolBlk (wr.setCell ⟨gs, i, none⟩ (.bool true)) gs ((d ++ [true]) ++ List.replicate (n - (i + 1)) false) by
     have h := HS.1.set i true; have h2 := set_grow d (n - i) (by omega); rw [HD.1] at h2; rw [h2] at h; rw [show n - (i + 1) = n - i - 1 by omega]
     exact h)
    have HKP := ak (show BoolBlk wr gs ((d ++ [false]) ++ List.replicate (n - (i + 1)) false) by
     have h := HS.1; rw [keep_grow d (n - i) (by omega), show n - i - 1 = n - (i + 1) by omega] at h
     exact h)
    have HSH := ak (show (wr.setCell ⟨gs, i, none⟩ (.bool true)).heap[g9]? = some (.cells #[.slice (some ⟨gs, 0, none⟩) n n, .int .i64 (T : Int)] 27 (0, 0)) ∧ (wr.setCell ⟨gs, i, none⟩ (.bool true)).heap[gb]? = some (.cells #[.slice none 0 0, .int .i64 0] 27 (0, 0)) ∧ TabBlk (wr.setCell ⟨gs, i, none⟩ (.bool true)) g (tabG 25) ∧ Below w.heap.size w (wr.setCell ⟨gs, i, none⟩ (.bool true)) from
     ⟨blk_far H9.1 N1.1 _, blk_far BK.1 N3.1 _, HT.1.move fun o h => (Below.heap_setCell wr ⟨gs, i, none⟩ (.bool true) g N5.1).trans h, below_set HB.1 G1.1⟩)
    have hdl := HD.1; have HDT := ak (show (d ++ [true]).length = i + 1 by simp [hdl]); have HDF := ak (show (d ++ [false]).length = i + 1 by simp [hdl]); clear hdl
    by_cases hit : i = T
    ·have HF2 := ak (show (d ++ [true]) ++ unrRest T (i + 1) m need rr = unrL n k r by
      have h := HF.1; rw [hit, unrRest_at] at h; rw [hit]
      simpa using h)
     have HM2 := ak (show (i + 1 ≤ T → m + (i + 1) + 1 = n) ∧ (T < i + 1 → m + (i + 1) = n) by have := HM.1; omega); clear HF HM; subst hit
     have e1 : ((i : Int) == (i : Int)) = true := by simp
     go_wp2
     go_roundg (gk - 1)
     case measure => have := HI.1; omega
     case rel => exact ⟨i + 1, m, need, rr, d ++ [true], by simp, rfl, rfl, rfl, ⟨by have := HI.1; omega⟩, HDT, HF2, HM2, HN, ⟨HSH.1.1⟩, HST, ⟨HSH.1.2.1⟩, ⟨HSH.1.2.2.1⟩, ⟨HSH.1.2.2.2⟩⟩
    ·have e1 : ((i : Int) == (T : Int)) = false := beq_eq_false_iff_ne.2 (by omega); obtain ⟨m, rfl⟩ : ∃ m', m = m' + 1 := ⟨m - 1, by have := HM.1; have := HTN.1; omega⟩; have HM2 := ak (show (i + 1 ≤ T → m + (i + 1) + 1 = n) ∧ (T < i + 1 → m + (i + 1) = n) by have := HM.1; omega)
     have hm24 : m < 25 := by have := HM.1; have := HTN.1; omega
     have HSTEP := ak (fun (need' r' : Nat) (b : Bool) (he : unr (m + 1) need rr = b :: unr m need' r') => show (d ++ [b]) ++ unrRest T (i + 1) m need' r' = unrL n k r from by
      have h := HF.1; rw [unrRest_step hit he] at h
      simpa using h)
     clear HF HM hit
     have m1 : ((m + 1 : Nat) : Int) - 1 = (m : Int) := by omega
     have m2 : (m : Int) < 25 := by omega
     by_cases hn0 : need = 0
     ·subst hn0; have HF2 := ak (HSTEP.1 0 rr false (unr_none m rr)); clear HSTEP
      go_wp2
      go_roundg (gk - 1)
      case measure => have := HI.1; omega
      case rel => exact ⟨i + 1, m, 0, rr, d ++ [false], by simp, rfl, by first | rfl | simp, rfl, ⟨by have := HI.1; omega⟩, HDF, HF2, HM2, HN, H9, HKP, BK, HT, HB⟩
     ·have z1 : ((need : Int) == 0) = false := beq_eq_false_iff_ne.2 (by omega)
      have n1 : (1 : Int) ≤ (need : Int) := by omega
      have n2 : (need : Int) ≤ 23 := by have := HN.1.1; omega
      have n3 : (0 : Int) ≤ (need : Int) - 1 := by omega
      have n4 : (need : Int) - 1 < 25 := by omega
      have n5 : (need : Int) < 26 := by omega
      have n6 : ((need : Int) - 1).toNat = need - 1 := by omega
      have c1 := HT.1.cells m (need - 1) (by omega) (by have := HN.1.1; omega); have HCB := ak (bin_lt (n := m) (k := need - 1) (by omega)); have HYES := ak (fun (hr : rr < bin m (need - 1)) => HSTEP.1 _ _ _ (unr_yes (by omega) hr)); have HNO := ak (fun (hr : ¬ rr < bin m (need - 1)) => HSTEP.1 _ _ _ (unr_no (by omega) hr)); clear HSTEP hn0; obtain ⟨C, hC⟩ : ∃ C, C = bin m (need - 1) := ⟨_, rfl⟩; rw [← hC] at c1 HYES HNO HCB; clear hC
      by_cases hrc : rr < C
      ·have r1 : decide ((rr : Int) < (C : Int)) = true := decide_eq_true (by omega); have r2 : decide (rr < C) = true := decide_eq_true hrc; have HF2 := ak (HYES.1 hrc); clear HYES HNO hrc
       go_wp2
       go_roundg (gk - 1)
       case measure => have := HI.1; omega
       case rel => exact ⟨i + 1, m, need - 1, rr, d ++ [true], by simp, rfl, by first | rfl | simp, by rw [show ((need - 1 : Nat) : Int) = (need : Int) - 1 by omega], ⟨by have := HI.1; omega⟩, HDT, HF2, HM2, ⟨by have := HN.1; omega⟩, ⟨HSH.1.1⟩, HST, ⟨HSH.1.2.1⟩, ⟨HSH.1.2.2.1⟩, ⟨HSH.1.2.2.2⟩⟩
      ·have r1 : decide ((rr : Int) < (C : Int)) = false := decide_eq_false (by omega); have r2 : decide (rr < C) = false := decide_eq_false hrc; have HF2 := ak (HNO.1 hrc)
       have y1 : (0 : Int) ≤ (rr : Int) - (C : Int) := by omega
       have y2 : (C : Int) ≤ (rr : Int) := by omega
       have y3 : (rr : Int) ≤ 16777216 := by have := HN.1.2; omega
       have HRC := ak hrc; clear HYES HNO hrc
       go_wp2
       go_roundg (gk - 1)
       case measure => have := HI.1; omega
       case rel => exact ⟨i + 1, m, need, rr - C, d ++ [false], by simp, by rw [show ((rr - C : Nat) : Int) = (rr : Int) - (C : Int) by have := HRC.1; omega], by first | rfl | simp, rfl, ⟨by have := HI.1; omega⟩, HDF, HF2, HM2, ⟨by have := HN.1; omega⟩, H9, HKP, BK, HT, HB⟩
   ·have hie : i = n := by have := HI.1; omega
    have hib : decide ((i : Int) < (n : Int)) = false := decide_eq_false (by omega); have f0 := blk_frozen BK.1 0; have f1 := blk_frozen BK.1 1; have e0 := blk_cell BK.1 0; have e1 := blk_cell BK.1 1
    have HG := ak (show d = unrL n k r by
     have h := HF.1; have h2 := HM.1; have h3 := HTN.1
     unfold unrRest at h
     rw [if_neg (by omega), show m = 0 by omega] at h
     simpa [unr] using h)
    have HS2 := ak (show BoolBlk wr gs (unrL n k r) by
     have h := HS.1; rw [show n - i = 0 by omega, HG.1] at h
     simpa using h)
    have HL := ak (unrL_len HR.1); clear hie HF HM HG
    try simp at e0 e1
    go_wp2
    refine bodyPost_ret (results_ct rfl _ _ gb 27 #[.slice (some ⟨gs, 0, none⟩) n n, .int .i64 (T : Int)] (0, 0) _ rfl (by refine blk_put (cs := #[.slice (some ⟨gs, 0, none⟩) n n, .int .i64 0]) ?_ 1 _ rfl; refine blk_put (cs := #[.slice none 0 0, .int .i64 0]) ?_ 0 _ rfl; exact BK.1) Try.underlying27 rfl (by kernel_rfl)) rfl ?_; refine ⟨.slice (some ⟨gs, 0, none⟩) n n, by rw [← HTQ.1]; rfl, ?_, below_set (below_set HB.1 GE.1) GE.1⟩; have h := ((HS2.1.far (p := ⟨gb, 0, none⟩) (Ne.symm N3.1) (.slice (some ⟨gs, 0, none⟩) n n)).far (p := ⟨gb, 1, none⟩) (Ne.symm N3.1) (.int .i64 (T : Int))).ofR (h1 := fun _ => rfl) (ok := fun _ => True) G1.1 trivial (by rw [HL.1]; omega); rw [HL.1] at h; exact h
theorem layout_Unrank.calls (a0 a1 a2 : Int) (r1 : List Bool) (r2 : Int) (r3 : Bool) (w : World) (h : layout_Unrank.f a0 a1 a2 = some (r1, r2, r3)) :
  Calls Try.prog 28 #[.int .i64 a0, .int .i64 a1, .int .i64 a2] w fun e w' => ∃ v0_ : Value, e = .returned (.tuple #[.agg #[v0_, .int .i64 r2], .bool r3]) ∧ Kd.R Kd.bool 4 w' w.heap.size (fun _ => True) v0_ r1 ∧ Below w.heap.size w w' := by
 unfold layout_Unrank.f at h
 by_cases hc : 0 ≤ a2 ∧ a2 < cnt a0 a1
 ·rw [if_pos hc] at h
  injection h with h
  injection h with h1 h
  injection h with h2 h3
  subst h1 h2 h3; obtain ⟨hc1, hc2⟩ := hc
  have hq : ¬ a0 < 1 ∧ ¬ 24 < a0 ∧ ¬ a1 < 1 ∧ ¬ a0 < a1 := by
   unfold cnt at hc2
   refine ⟨fun e => ?_, fun e => ?_, fun e => ?_, fun e => ?_⟩ <;> simp only [e, if_true, ite_self] at hc2 <;> omega
  obtain ⟨h1, h2, h3, h4⟩ := hq
  have hcc : cnt a0 a1 = (cntN a0.toNat a1.toNat : Int) := by
   unfold cnt cntN
   rw [if_neg h1, if_neg h2, if_neg h3, if_neg h4, show (a0 - 1).toNat = a0.toNat - 1 by omega, show (a1 - 1).toNat = a1.toNat - 1 by omega, Int.natCast_mul, Int.toNat_of_nonneg (by omega)]
  have h := unrank_yes a0.toNat a1.toNat a2.toNat w (by omega) (by omega) (by omega) (by omega) (by omega); rw [Int.toNat_of_nonneg (by omega), Int.toNat_of_nonneg (by omega), Int.toNat_of_nonneg (by omega)] at h; exact h
 ·rw [if_neg hc] at h
  injection h with h
  injection h with h1 h
  injection h with h2 h3
  subst h1 h2 h3; exact unrank_no a0 a1 a2 w hc
end Go.Proofs.Ytogmjilaiopjmaa.P
end
