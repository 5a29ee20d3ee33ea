/- Lemmas for the row of this claim: contracts of the functions that it reaches, and plain laws about numbers and lists. -/
import Derived.Test.YtogmjilaiopjmaaMore8
import Derived.Laws.CopyOwn
import Derived.Lib.SlBuf
import Derived.StillTailTactics
set_option linter.unusedVariables false
set_option linter.unusedSimpArgs false
section
namespace Go.Proofs.Ytogmjilaiopjmaa.P
open Go Go.RowKit Go.Proofs.YtogmjilaiopjmaaW.PrintWords Go.Proofs.YtogmjilaiopjmaaW.PrintLast Go.Proofs.YtogmjilaiopjmaaW.PrintMore
theorem u64_wrap {x : Int} (h0 : 0 ≤ x) (h1 : x < 18446744073709551616) : IntKind.u64.wrap x = x := by rw [IntKind.wrap_u64]; omega
theorem u64_mask {x : Int} (h0 : 0 ≤ x) (h1 : x < 4294967296) : Go.bits .and .u64 x 4294967295 = x := by
 have := bits_mask .u64 63 (by decide) (fun n a b => u64_wrap a (by omega)) 32 (by omega) x h0 (by omega); rw [show (4294967295 : Int) = 2 ^ 32 - 1 by decide, this]
 omega
theorem mul_one_f (m : Nat) (h : m ≤ 1000000) : bits_Mul.f 1 (m : Int) = some (0, (m : Int)) := by
 unfold bits_Mul.f bits_Mul64.f
 simp only [Option.bind_some]; rw [u64_mask (x := 1) (by omega) (by omega), u64_mask (x := (m : Int)) (by omega) (by omega), show ((1 : Int) / 4294967296) = 0 by decide, show ((m : Int) / 4294967296) = 0 by omega]; have a1 := u64_wrap (x := 0) (by omega) (by omega); have a2 := u64_wrap (x := (m : Int)) (by omega) (by omega)
 have a3 : ((m : Int) / 4294967296) = 0 := by omega
 have a4 := u64_mask (x := 0) (by omega) (by omega)
 have a5 : ((0 : Int) / 4294967296) = 0 := by decide
 simp only [Int.zero_mul, Int.mul_zero, Int.one_mul, Int.zero_add, Int.add_zero, a1, a2, a3, a4, a5]
def reps (n m : Nat) : List Int := List.replicate n (-1) ++ List.replicate (m - n) 0
theorem reps_len {n m : Nat} (h : n ≤ m) : (reps n m).length = m := by simp [reps]; omega
theorem reps_at {n m i : Nat} (h : i < n) : (reps n m).getD i 0 = -1 := by simp [reps, List.getD_eq_getElem?_getD, List.getElem?_append, h]
theorem reps_splice {n k m : Nat} (h : n + k ≤ m) : ((reps n m).map (Value.int .i64)).take n ++ (List.replicate k (Value.int .i64 (-1))) ++ ((reps n m).map (Value.int .i64)).drop (n + k) = (reps (n + k) m).map (Value.int .i64) := by
 apply List.ext_getElem?
 intro i; simp only [reps, List.getElem?_append, List.getElem?_map, List.getElem?_replicate, List.getElem?_take, List.getElem?_drop, List.length_append, List.length_take, List.length_map, List.length_replicate]
 have h1 : min n (n + (m - n)) = n := by omega
 rw [h1]
 by_cases q1 : i < n
 ·simp [q1, show i < n + k by omega]
 ·by_cases q2 : i < n + k
  ·simp [q1, q2, show i - n < k by omega]
  ·by_cases q3 : i < m
   ·simp [q1, q2, show ¬ n + k + (i - (n + k)) < n by omega]
    rw [if_pos (by omega), if_pos (by omega)]
   ·simp [q1, q2, show ¬ n + k + (i - (n + k)) < n by omega]
    rw [if_neg (by omega), if_neg (by omega)]
theorem copied {w0 W : World} {g n k m : Nat} (h : IntBlk W g (reps n m)) (hb : Below w0.heap.size w0 W) (hg : w0.heap.size ≤ g := by exact Nat.le_refl _) (hm : n + k ≤ m := by omega) :
  ∃ W2, W.setRow g ((reps (n + k) m).map (Value.int .i64)).toArray = W2 ∧ IntBlk W2 g (reps (n + k) m) ∧ Below w0.heap.size w0 W2 :=
 ⟨_, rfl, setRow_heap W g _ _ 3 _ h, below_setRow hb hg _⟩
set_option maxHeartbeats 4000000 in
set_option maxRecDepth 100000 in
theorem repeat_walk (ax : Addr) (cx m : Nat) (w : World) (hx : w.cell? ax = some (.int .i64 (-1))) (h1 : 1 ≤ m) (hm : m ≤ 1000000) :
  Calls Try.prog 89 #[.slice (some ax) 1 cx, .int .i64 (m : Int)] w fun e w' => ∃ g : Nat, e = .returned (.slice (some ⟨g, 0, none⟩) m m) ∧ w.heap.size ≤ g ∧ IntBlk w' g (List.replicate m (-1)) ∧ Below w.heap.size w w' := by
 have hu22 := Try.underlying22; have HX := ak hx; have HM := ak (mul_one_f m hm); have H1 := ak h1; have H2 := ak hm; have y1 : decide ((m : Int) < 0) = false := decide_eq_false (by omega); have y2 : decide ((m : Int) > 9223372036854775807) = false := decide_eq_false (by omega); have s1 : IntKind.u64.wrap (m : Int) = (m : Int) := u64_wrap (by omega) (by omega); have s2 : IntKind.i64.wrap (m : Int) = (m : Int) := IntWalk.i64_in _ (by omega); have HB := ak (Below.refl w.heap.size w); have hmk : ∀ W : World, (Instr.makeSlice 22 (.int .i64 (m : Int)) (.int .i64 (m : Int))).run Try.prog W = .ok (.slice (some ⟨W.heap.size, 0, none⟩) m m) (W.alloc (.cells (madeCells #[.int .i64 0] m) 3)) := fun W => run_make_row' 22 3 (.int .i64 0) 8 Try.underlying22 info3 rfl .i64 .i64 m (by omega) (by omega) W; clear hx hm h1
 go_enter Try.func89, Try.ntmps89
 go_upto_region 6 with ((go_at_call 101; refine (bits_Mul.calls 1 (m : Int) 0 (m : Int) _ HM.1).mono ?_; rintro e w1 ⟨rfl, nd, rfl⟩))
 go_upto_region 7 with (fail)
 clear hmk
 have hbk : IntBlk ((w.drewN nd).alloc (.cells (madeCells #[.int .i64 0] m) 3)) w.heap.size (reps 0 m) := by
  have h := blk_new (w.drewN nd) (.cells (madeCells #[.int .i64 0] m) 3); rw [made_ints] at h; rw [made_ints]
  simpa [reps, RowBlk] using h
 have hb0 : Below w.heap.size w ((w.drewN nd).alloc (.cells (madeCells #[.int .i64 0] m) 3)) := below_alloc (pw_below_drewN (Below.refl _ _) nd) _; generalize (w.drewN nd).alloc (.cells (madeCells #[.int .i64 0] m) 3) = W at hbk hb0 ⊢; have hxW := (hb0.cell (World.block_lt_of_cell? w _ HX.1)).trans HX.1; have HBK := ak hbk; have HB0 := ak hb0; have HXW := ak hxW; clear hbk hb0 hxW
 have HSRC : Aside0 (∀ (j : Nat) (v : Value), [Value.int .i64 (-1)][j]? = some v → W.cell? (ax.add j) = some v) := ⟨fun j v hj => by
  cases j with
  | zero =>
   simp at hj
   subst hj; rw [show ax.add 0 = ax from by simp [Addr.add]]; exact HXW.1
  | succ j => simp at hj⟩
 have HN1 : Aside0 ([Value.int .i64 (-1)].length = Nat.min 1 m) := ⟨by have := H1.1; show 1 = min 1 m; omega⟩; have HFT : Aside0 (0 + [Value.int .i64 (-1)].length ≤ ((reps 0 m).map (Value.int .i64)).length) := ⟨by rw [List.length_map, reps_len (by omega)]; exact H1.1⟩; have HON : Aside0 (∀ v ∈ [Value.int .i64 (-1)], v.oneCell' = true) := ⟨fun v hv => by rw [List.mem_singleton.1 hv]; rfl⟩; have hrun := run_copy_row (P := Try.prog) W 22 22 3 3 w.heap.size 0 m m ax 1 cx ((reps 0 m).map (Value.int .i64)).toArray 3 [Value.int .i64 (-1)] Try.underlying22 (by kernel_rfl) HBK.1 HN1.1 HSRC.1 (by simpa using HFT.1) HON.1; obtain ⟨W2, hW2, hbk2, hbl2⟩ := copied (n := 0) (k := 1) (m := m) HBK.1 HB0.1 (Nat.le_refl _) (by have := H1.1; omega); rw [show (List.take 0 ((reps 0 m).map (Value.int .i64)).toArray.toList ++ [Value.int .i64 (-1)] ++ List.drop (0 + [Value.int .i64 (-1)].length) ((reps 0 m).map (Value.int .i64)).toArray.toList) = (reps 1 m).map (Value.int .i64) from reps_splice (n := 0) (k := 1) (m := m) (by have := H1.1; omega), hW2] at hrun; have HBK2 := ak hbk2; have HBL2 := ak hbl2; clear hW2 hbk2 hbl2
 go_wp2
 clear hrun
 go_loopg [8] (m - 1) (fun kq v8 w' => ∃ (n : Nat), v8 = .int .i64 (n : Int) ∧ Aside0 (kq + n = m) ∧ Aside0 (1 ≤ n) ∧ Aside0 (IntBlk w' w.heap.size (reps n m)) ∧ Aside0 (Below w.heap.size w w'))
 case atStart => exact ⟨1, rfl, ⟨by have := H1.1; omega⟩, ⟨Nat.le_refl _⟩, HBK2, HBL2⟩
 case round =>
  clear HBK2 HBL2 HBK HB0 HXW HSRC HN1 HFT HON; obtain ⟨n, rfl, HK, HN, HBK, HBL⟩ := hrel
  by_cases hn : n < m
  ·have z1 : decide ((n : Int) < (m : Int)) = true := decide_eq_true (by omega); have z2 : decide (n < m) = true := decide_eq_true hn
   have z3 : (n : Int) ≤ (m : Int) := by omega
   have z4 : n ≤ m := by omega
   have HNM := ak hn; clear hn
   go_upto_region 9 with (fail)
   have z5 : ¬ m = n := by have := HNM.1; omega
   obtain ⟨k, hk⟩ : ∃ k, k = min n (m - n) := ⟨_, rfl⟩
   have hk1 : 1 ≤ k := by have := HNM.1; have := HN.1; omega
   have HKM := ak hk; have HBD := ak (show IntBlk wr.drew w.heap.size (reps n m) from HBK.1)
   have hrun := run_copy_row (P := Try.prog) wr.drew 22 22 3 3 w.heap.size n (m - n) (m - n) ⟨w.heap.size, 0, none⟩ n m ((reps n m).map (Value.int .i64)).toArray 3 (List.replicate k (Value.int .i64 (-1))) Try.underlying22 (by kernel_rfl) HBD.1 (by rw [List.length_replicate]; exact hk)
    (fun j v hj => by
     obtain ⟨hj1, rfl⟩ : j < k ∧ Value.int .i64 (-1) = v := by
      rw [List.getElem?_replicate] at hj
      split at hj
      ·rename_i q; exact ⟨q, Option.some.inj hj⟩
      ·cases hj
     have h := RowBlk.cell HBD.1 0 j (by rw [reps_len z4]; have := HNM.1; omega)
     rw [add_plain, h, reps_at (by omega)])
    (by rw [List.length_replicate]; simp only [List.size_toArray, List.length_map, reps_len z4]; omega) (fun v hv => by rw [List.eq_of_mem_replicate hv]; rfl)
   obtain ⟨W3, hW3, hbk3, hbl3⟩ := copied (w0 := w) (n := n) (k := k) (m := m) HBD.1 (below_drew1 HBL.1) (Nat.le_refl _) (by omega); rw [List.length_replicate, show ((reps n m).map (Value.int .i64)).toArray.toList = (reps n m).map (Value.int .i64) from rfl, reps_splice (by omega), hW3] at hrun; have HB3 := ak hbk3; have HL3 := ak hbl3
   have s3 : IntKind.i64.wrap ((n : Int) + (k : Int)) = ((n + k : Nat) : Int) := by rw [Int.natCast_add]; exact IntWalk.i64_in _ (by have := H2.1; omega)
   have HNK := ak (show n + k ≤ m by omega); have HK1 := ak hk1; clear hk hk1 hW3 hbk3 hbl3
   go_region_held3 (fun w' => True) (trivial) (fail)
   go_wp2
   go_roundg (m - (n + k))
   case measure => have := HK.1; have := HNK.1; have := HK1.1; omega
   case rel => exact ⟨n + k, by first | rfl | (rw [s3]; done) | simp, ⟨by have := HNK.1; omega⟩, ⟨by have := HN.1; omega⟩, HB3, HL3⟩
  ·have z1 : decide ((n : Int) < (m : Int)) = false := decide_eq_false (by omega); have z2 : decide (n < m) = false := decide_eq_false (by omega); have HNM := ak (show n = m by have := HK.1; omega); clear hn
   go_wp2
   go_ret
   refine ⟨w.heap.size, rfl, Nat.le_refl _, ?_, HBL.1⟩; have h := HBK.1; rw [HNM.1] at h
   simpa [reps] using h
end Go.Proofs.Ytogmjilaiopjmaa.P
end
