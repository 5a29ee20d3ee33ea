/- Lemmas for the row of this claim: contracts of the functions that it reaches, and plain laws about numbers and lists. -/
import Derived.Test.YtogmjilaiopjmaaMore13
import Derived.RangeFuncLeaves
import Derived.Shelf.Abstract
import Derived.OwnWalkIn
import Derived.TacticsInMore
import Derived.LoopNIn
import Derived.LoopIn
set_option linter.unusedVariables false
set_option linter.unusedSimpArgs false
section
namespace Go.Proofs.Ytogmjilaiopjmaa.P
open Go Go.RowKit Go.Proofs.YtogmjilaiopjmaaW.PrintWords Go.Proofs.YtogmjilaiopjmaaW.PrintLast Go.Proofs.YtogmjilaiopjmaaW.PrintMore
attribute [local go_sem] Oper.semAt_some
def chWorld (w : World) (A : Option Addr) (n c : Nat) (t i j : Int) : World := ((w.alloc (.cells #[.slice A n c, .int .i64 t] 27)).alloc (.cells #[.int .i64 i] 3)).alloc (.cells #[.int .i64 j] 3)
set_option maxHeartbeats 1000000 in
theorem choices_calls (w : World) (A : Option Addr) (n c : Nat) (t i j : Int) :
  Calls Try.prog 72 #[.agg #[.slice A n c, .int .i64 t], .int .i64 i, .int .i64 j] w fun e w' =>
   e = .returned (.func (.func 90) #[] #[.pointer (some ⟨w.heap.size + 1 + 1, 0, none⟩), .pointer (some ⟨w.heap.size, 0, none⟩), .pointer (some ⟨w.heap.size + 1, 0, none⟩)]) ∧ w' = chWorld w A n c t i j := by
 go_enter Try.func72, Try.ntmps72
 go_wp2
 go_ret
 exact ⟨rfl, rfl⟩
theorem add_block (a : Addr) (n : Nat) : (a.add n).block = a.block := by
 unfold Addr.add
 repeat' split
 all_goals rfl
theorem C_keep {w w1 : World} {A : Option Addr} {n : Nat} {l : List Bool} (h : Kd.C Kd.bool w A n l) (hk : ∀ ad, A = some ad → w1.heap[ad.block]? = w.heap[ad.block]?) : Kd.C Kd.bool w1 A n l := by
 refine ⟨h.1, h.2.1, fun hn => ?_⟩; obtain ⟨ad, e, hc⟩ := h.2.2 hn; refine ⟨ad, e, fun j p hp => ?_⟩; obtain ⟨c, h1, h2, h3⟩ := hc j p hp; exact ⟨c, h1, h2, fun i u hu => (World.cell?_of_block (by rw [add_block]; exact hk ad e)).trans (h3 i u hu)⟩
theorem Chg.of_below {B m : Nat} {W W' : World} (h : Below W.heap.size W W') (hB : B ≤ W.heap.size) : Chg B m W W' :=
 ⟨h.mono hB, fun k o _ ho _ => (h.block k (blk_lt ho)).trans ho⟩
theorem Chg.cell {B m : Nat} {W : World} {g : Nat} {cs : Array Value} {t : TypeId} (hg : W.heap[g]? = some (.cells cs t (0, 0))) (hB : B ≤ g) (j : Nat) (v : Value) : Chg B m W (W.setCell ⟨g, j, none⟩ v) :=
 ⟨(Below.refl _ _).setCell (p := ⟨g, j, none⟩) hB v, fun k o _ ho hc => by
  by_cases e : k = g
  ·subst e; rw [hg] at ho; cases ho; cases hc
  ·exact (Below.heap_setCell W ⟨g, j, none⟩ v k e).trans ho⟩
def En (t : Nat) (x : List Bool) (v : Array Value) (W : World) : Prop := ∃ (A : Option Addr) (c : Nat), v = #[.agg #[.slice A x.length c, .int .i64 (t : Int)]] ∧ Kd.C Kd.bool W A x.length x ∧ x.length ≤ c
theorem cell_alloc {w : World} {a : Addr} {v : Value} (h : w.cell? a = some v) (o : Obj) : (w.alloc o).cell? a = some v := (World.cell?_of_block (Below.heap_alloc w o _ (World.block_lt_of_cell? w a h))).trans h
theorem cell_far2 {w : World} {a : Addr} {v : Value} {g i j : Nat} {u x : Value} (h : w.cell? a = some v) (hne : a.block ≠ g) : ((w.setCell ⟨g, i, none⟩ u).setCell ⟨g, j, none⟩ x).cell? a = some v := by
 rw [World.cell?_of_block (Below.heap_setCell _ ⟨g, j, none⟩ x a.block hne), World.cell?_of_block (Below.heap_setCell _ ⟨g, i, none⟩ u a.block hne), h]
theorem R_ge {α : Type} {d : Kd α} {e : Nat} {w : World} {base g n c : Nat} {ok : Nat → Prop} {l : List α} (h : d.R e w base ok (.slice (some ⟨g, 0, none⟩) n c) l) : base ≤ g := by
 obtain ⟨inner, ho⟩ := Kd.R_own h; exact own_base ho g (by simp [Value.ownBlock])
def onl (t i i' : Nat) (l : List Bool) : List Bool := l.mapIdx fun k b => if k < i then b else if k < i' then decide (k = t) else b
theorem onl_len (t i i' : Nat) (l : List Bool) : (onl t i i' l).length = l.length := by simp [onl]
theorem onl_start (t i : Nat) (l : List Bool) : onl t i i l = l := by
 apply List.ext_getElem (onl_len _ _ _ _)
 intro k h1 h2; simp only [onl, List.getElem_mapIdx]
 by_cases q : k < i
 ·rw [if_pos q]
 ·rw [if_neg q, if_neg q]
theorem onl_end (t i : Nat) (l : List Bool) : onl t i l.length l = only t i l := by
 apply List.ext_getElem (by rw [onl_len, only_length])
 intro k h1 h2; rw [only_length] at h2
 simp [onl, only, h2]
theorem onl_step {t i i' : Nat} {l : List Bool} (h : i ≤ i') (h' : i' < l.length) : (onl t i i' l).set i' (decide (i' = t)) = onl t i (i' + 1) l := by
 apply List.ext_getElem (by simp [onl])
 intro k h1 h2; rw [onl_len] at h2; rw [List.getElem_set]
 by_cases e : i' = k
 ·subst e
  simp [onl, Nat.not_lt.2 h]
 ·rw [if_neg e]; simp only [onl, List.getElem_mapIdx]
  by_cases q : k < i'
  ·rw [if_pos q, if_pos (show k < i' + 1 by omega)]
  ·rw [if_neg q, if_neg (show ¬ k < i' + 1 by omega)]
set_option maxHeartbeats 4000000 in
set_option maxRecDepth 100000 in
theorem ch0_walk (n lo bj bl bf : Nat) (A : Option Addr) (c t i : Nat) (l : List Bool) (W : World) (J Jx : List (List Bool) → World → Prop) (n₀ B : Nat) (S : Nat → Prop)
  (hj : W.heap[bj]? = some (.cells #[.int .i64 0] 3 (0, 0))) (hl : W.heap[bl]? = some (.cells #[.slice A l.length c, .int .i64 (t : Int)] 27 (0, 0))) (hf : W.heap[bf]? = some (.cells #[.int .i64 (i : Int)] 3 (0, 0)))
  (hr : Kd.C Kd.bool W A l.length l) (hc : l.length ≤ c) (hn : l.length ≤ 1000) (hi : i ≤ l.length) (ht : t < l.length) (hB : B ≤ W.heap.size) (hJ : Ab B W.heap.size J)
  (hy : ∀ v W1, J [] W1 → En t (only t i l) v W1 → YieldAt Fence.wide (n - 1) Try.prog lo v W1 fun e W' => ((e = .returned (.bool true) ∧ J [only t i l] W') ∨ (e = .returned (.bool false) ∧ Jx [only t i l] W')) ∧ Kp lo n₀ S W1 W')
  (h0 : J [] W) :
  CallsIn Fence.wide n Try.prog 90 #[.func (.yield lo) #[] #[], .pointer (some ⟨bj, 0, none⟩), .pointer (some ⟨bl, 0, none⟩), .pointer (some ⟨bf, 0, none⟩)] W fun e W' => (∃ v, e = .returned v) ∧ (J [only t i l] W' ∨ Jx [only t i l] W') := by
 have hu25 := Try.underlying25; have hu27 := Try.underlying27; have HB := ak (Below.refl W.heap.size W); have BKj := ak hj; have BKl := ak hl; have BKf := ak hf; have HR := ak hr; have HC := ak hc; have HN := ak hn; have HI := ak hi; have HT := ak ht; have HBB := ak hB; have HJ := ak hJ; have HY := ak hy; have H0 := ak h0; have HF := ak (show slices_Clone_bool_bool.f l = some l by unfold slices_Clone_bool_bool.f; rw [if_pos (by omega)]); clear hj hl hf hr hc hn hi ht hB hJ hy h0; refine callsIn_of_wp Try.func90 rfl trivial ?_ rfl; simp only [Try.ntmps90, List.size_toArray, List.length_cons, List.length_nil, Nat.reduceAdd, Nat.reduceSub, Array.replicate_succ, Array.replicate_zero, List.push_toArray, List.append_toArray, List.nil_append, List.cons_append]; refine wpIn_wide.2 ?_
 go_upto_region 1 with ((with_reducible refine gate_dst (N := 4) rfl ?_); refine box_event ?hg (N := 4) ?hd (cs := #[.func (.yield lo) #[] #[]]) (t := 77) ?hr ?_; (case hd => rfl); (case hg => rfl); (case hr => first | (go_simp; done) | (go_simp; rfl)); intro g4 hg w4 hbox hb; have GE4 := ak (show W.heap.size ≤ g4 by have := HB.1.size; omega); have NE4_l := ak (show bl ≠ g4 by have := blk_lt BKl.1; omega); have n_BKj := ak (blk_below BKj.1 hb); have n_BKl := ak (blk_below BKl.1 hb); have n_BKf := ak (blk_below BKf.1 hb); have n_HB := ak (below_step HB.1 hb); clear BKj; clear BKl; clear BKf; clear HB; have BKj := n_BKj; have BKl := n_BKl; have BKf := n_BKf; have HB := n_HB; clear n_BKj n_BKl n_BKf n_HB; have BK4 := ak hbox; clear hbox hb hg)
 have cj := blk_cell BKj.1 0; have cl0 := blk_cell BKl.1 0; have cl1 := blk_cell BKl.1 1; have cf := blk_cell BKf.1 0
 simp at cj cl0 cl1 cf
 go_upto_region 2 with (fail)
 have hbx : (w4.alloc (.cells #[.slice none 0 0, .int .i64 0] 27 (0, 0))).heap[w4.heap.size]? = _ := blk_new w4 (.cells #[.slice none 0 0, .int .i64 0] 27 (0, 0)); have ne0 := Nat.ne_of_lt (blk_lt BKl.1)
 go_cut [5] (fun v5 wc => ∃ (g5 g6 cap6 : Nat), v5 = .pointer (some ⟨g5, 0, none⟩) ∧ Aside0 (wc.heap[g5]? = some (.cells #[.slice (some ⟨g6, 0, none⟩) l.length cap6, .int .i64 (t : Int)] 27 (0, 0))) ∧ Aside0 (Kd.R Kd.bool 4 wc W.heap.size (fun _ => True) (.slice (some ⟨g6, 0, none⟩) l.length cap6) l) ∧ Aside0 (wc.heap[bl]? = some (.cells #[.slice A l.length c, .int .i64 (t : Int)] 27 (0, 0))) ∧ Aside0 (wc.heap[bf]? = some (.cells #[.int .i64 (i : Int)] 3 (0, 0))) ∧ Aside0 (wc.heap[g4]? = some (.cells #[.func (.yield lo) #[] #[]] 77 (0, 0))) ∧ Aside0 (Below W.heap.size W wc) ∧ Aside0 (W.heap.size ≤ g5))
 case first =>
  go_region_held3 (fun w' => w'.cell? ⟨bl, 0, none⟩ = some (.slice A l.length c) ∧ w'.cell? ⟨bl, 1, none⟩ = some (.int .i64 (t : Int))) (first | exact ⟨cl0, cl1⟩ | exact ⟨cell_alloc cl0 _, cell_alloc cl1 _⟩ | exact ⟨n0.1, n1.1⟩ | exact ⟨cell_alloc n0.1 _, cell_alloc n1.1 _⟩ | exact ⟨cell_far2 n0.1 ne0, cell_far2 n1.1 ne0⟩ | exact ⟨cell_far2 (cell_alloc n0.1 _) (Nat.ne_of_lt (blk_lt nBKl.1)), cell_far2 (cell_alloc n1.1 _) (Nat.ne_of_lt (blk_lt nBKl.1))⟩) (first | (go_at_call 66; refine (slices_Clone_bool_bool.calls A c l l _ (Kd.C_below HR.1 ?_) HC.1 HF.1).mono ?_; (repeat (first | exact HB.1 | apply below_drew1 | apply below_alloc | apply pw_below_drewN)); rintro e w66 ⟨v66, rfl, hR, hb0⟩; have hb : Below w4.heap.size w4 w66 := below_step (by repeat (first | exact Below.refl _ _ | apply below_drew1 | apply below_alloc | apply pw_below_drewN)) hb0; have nBX := ak (blk_below (show (w4.alloc (.cells #[.slice none 0 0, .int .i64 0] 27 (0, 0))).drew.heap[w4.heap.size]? = _ from hbx) hb0); have f0 := blk_frozen nBX.1 0; have f1 := blk_frozen nBX.1 1; have x0 := blk_cell nBX.1 0; have x1 := blk_cell nBX.1 1; (try simp at x0 x1); obtain ⟨g6, cap6, rfl, hg6⟩ := R_form hR (by have := HT.1; omega); have GE6 := ak (show W.heap.size ≤ g6 from Nat.le_trans (Nat.le_trans HB.1.size (Below.size (B := w4.heap.size) (by repeat (first | exact Below.refl _ _ | apply below_drew1 | apply below_alloc | apply pw_below_drewN)))) hg6); have nHL := ak (Kd.R_lower (base' := W.heap.size) hR (Nat.le_trans HB.1.size (Below.size (B := w4.heap.size) (by repeat (first | exact Below.refl _ _ | apply below_drew1 | apply below_alloc | apply pw_below_drewN))))); have nBKj := ak (blk_below BKj.1 hb); have nBKl := ak (blk_below BKl.1 hb); have nBKf := ak (blk_below BKf.1 hb); have nBK4 := ak (blk_below BK4.1 hb); have nHB := ak (below_step HB.1 hb); have n0 := ak ((blk_cell nBKl.1 0).trans rfl); have n1 := ak ((blk_cell nBKl.1 1).trans rfl); clear hb hb0 hR) | (go_at_call 66; go_loud (refine (slices_Clone_bool_bool.calls A c l l _ (Kd.C_below HR.1 ?_) HC.1 HF.1).mono ?_; (repeat (first | exact HB.1 | apply below_drew1 | apply below_alloc | apply pw_below_drewN)); rintro e w66 ⟨v66, rfl, hR, hb0⟩; have hb : Below w4.heap.size w4 w66 := below_step (by repeat (first | exact Below.refl _ _ | apply below_drew1 | apply below_alloc | apply pw_below_drewN)) hb0; obtain ⟨g6, cap6, rfl, hg6⟩ := R_form hR (by have := HT.1; omega); have GE6 := ak (show W.heap.size ≤ g6 from Nat.le_trans (Nat.le_trans HB.1.size (Below.size (B := w4.heap.size) (by repeat (first | exact Below.refl _ _ | apply below_drew1 | apply below_alloc | apply pw_below_drewN)))) hg6); have nHL := ak (Kd.R_lower (base' := W.heap.size) hR (Nat.le_trans HB.1.size (Below.size (B := w4.heap.size) (by repeat (first | exact Below.refl _ _ | apply below_drew1 | apply below_alloc | apply pw_below_drewN))))); have nBKj := ak (blk_below BKj.1 hb); have nBKl := ak (blk_below BKl.1 hb); have nBKf := ak (blk_below BKf.1 hb); have nBK4 := ak (blk_below BK4.1 hb); have nHB := ak (below_step HB.1 hb); have n0 := ak ((blk_cell nBKl.1 0).trans rfl); have n1 := ak ((blk_cell nBKl.1 1).trans rfl); clear hb hb0 hR)))
  all_goals (go_wp2; go_meet)
  ·exact ⟨w66.heap.size, g6, cap6, rfl, ⟨blk_new _ _⟩, ⟨Kd.R_below nHL.1 ((Below.refl _ _).alloc (Nat.le_refl _) _)⟩, ⟨blk_alloc nBKl.1 _⟩, ⟨blk_alloc nBKf.1 _⟩, ⟨blk_alloc nBK4.1 _⟩, ⟨below_alloc nHB.1 _⟩, ⟨nHB.1.size⟩⟩
  ·have hge := HB.1.size; exact ⟨w4.heap.size, g6, cap6, rfl, ⟨blk_put (blk_put nBX.1 0 _ rfl) 1 _ rfl⟩, ⟨Kd.R_set (Kd.R_set nHL.1 nBX.1 (by decide) 0 _) (blk_set nBX.1 0 _) (by decide) 1 _⟩, ⟨blk_far (p := ⟨w4.heap.size, 1, none⟩) (blk_far (p := ⟨w4.heap.size, 0, none⟩) nBKl.1 ne0 _) ne0 _⟩, ⟨blk_far (p := ⟨w4.heap.size, 1, none⟩) (blk_far (p := ⟨w4.heap.size, 0, none⟩) nBKf.1 (Nat.ne_of_lt (blk_lt BKf.1)) _) (Nat.ne_of_lt (blk_lt BKf.1)) _⟩, ⟨blk_far (p := ⟨w4.heap.size, 1, none⟩) (blk_far (p := ⟨w4.heap.size, 0, none⟩) nBK4.1 (Nat.ne_of_lt (blk_lt BK4.1)) _) (Nat.ne_of_lt (blk_lt BK4.1)) _⟩, ⟨below_set (below_set nHB.1 hge) hge⟩, ⟨hge⟩⟩
 case rest =>
  clear cj cl0 cl1 cf hbx ne0 NE4_l BKj BKl BKf HB BK4; obtain ⟨g5, g6, cap6, rfl, BK5, HO, BKl, BKf, BK4, HB, GE5⟩ := hcut; have cf := blk_cell BKf.1 0
  simp at cf
  have N65 := ak (show g6 ≠ g5 from fun e => Kd.R_ne HO.1 BK5.1 (by decide) (by simp [Value.ownBlock, e])); have N6l := ak (show g6 ≠ bl from fun e => Kd.R_ne HO.1 BKl.1 (by decide) (by simp [Value.ownBlock, e])); have N64 := ak (show g6 ≠ g4 from fun e => Kd.R_ne HO.1 BK4.1 (by decide) (by simp [Value.ownBlock, e])); have GE6 := ak (R_ge HO.1)
  go_wp2
  go_loopg [6] (l.length - i) (fun kq v6 w' => ∃ (x : Nat), v6 = .int .i64 (x : Int) ∧ Aside0 (kq + x = l.length) ∧ Aside0 (i ≤ x) ∧ Aside0 (w'.heap[g5]? = some (.cells #[.slice (some ⟨g6, 0, none⟩) l.length cap6, .int .i64 (t : Int)] 27 (0, 0))) ∧ Aside0 (Kd.R Kd.bool 4 w' W.heap.size (fun _ => True) (.slice (some ⟨g6, 0, none⟩) l.length cap6) (onl t i x l)) ∧ Aside0 (w'.heap[bl]? = some (.cells #[.slice A l.length c, .int .i64 (t : Int)] 27 (0, 0))) ∧ Aside0 (w'.heap[g4]? = some (.cells #[.func (.yield lo) #[] #[]] 77 (0, 0))) ∧ Aside0 (Below W.heap.size W w'))
  case atStart => exact ⟨i, rfl, ⟨by have := HI.1; omega⟩, ⟨Nat.le_refl _⟩, BK5, ⟨by rw [onl_start]; exact HO.1⟩, BKl, BK4, HB⟩
  case round =>
   clear BK5 HO BKl BKf BK4 HB cf; obtain ⟨x, rfl, HX, HIX, BK5, HO, BKl, BK4, HB⟩ := hrel; have c50 := blk_cell BK5.1 0; have c51 := blk_cell BK5.1 1; have cl0 := blk_cell BKl.1 0; have cl1 := blk_cell BKl.1 1; have c4 := blk_cell BK4.1 0
   simp at c50 c51 cl0 cl1 c4
   have hln := onl_len t i x l
   by_cases hx : x < l.length
   ·have y1 : decide ((x : Int) < (l.length : Int)) = true := decide_eq_true (by omega); have y2 : decide (x < l.length) = true := decide_eq_true hx
    have y3 : (x : Int) < (l.length : Int) := by omega
    have z1 : wrap64 ((x : Int) + 1) = ((x + 1 : Nat) : Int) := by unfold wrap64; have := HN.1; omega
    obtain ⟨cp, fp⟩ := Kd.R_cell false (show Kd.R Kd.bool 4 wr W.heap.size (fun _ => True) (.slice (some ⟨g6, 0, none⟩) (onl t i x l).length cap6) (onl t i x l) by rw [hln]; exact HO.1) (x : Int) (Int.natCast_nonneg _) (by rw [hln]; exact y3); rw [Int.toNat_natCast] at cp fp; have HLN := ak hln; have HX2 := ak hx; clear hln hx
    go_wp2
    go_roundg (gk - 1)
    case measure => have := HX.1; have := HX2.1; omega
    case rel =>
     refine ⟨x + 1, congrArg (Value.int .i64) z1, ⟨by have := HX.1; have := HX2.1; omega⟩, ⟨by have := HIX.1; omega⟩, ⟨blk_far (p := ⟨g6, x, none⟩) BK5.1 (Ne.symm N65.1) _⟩, ⟨?_⟩, ⟨blk_far (p := ⟨g6, x, none⟩) BKl.1 (Ne.symm N6l.1) _⟩, ⟨blk_far (p := ⟨g6, x, none⟩) BK4.1 (Ne.symm N64.1) _⟩, ⟨below_set HB.1 GE6.1⟩⟩; have h1 := Kd.R_putn (show Kd.R Kd.bool 4 wr W.heap.size (fun _ => True) (.slice (some ⟨g6, 0, none⟩) (onl t i x l).length cap6) (onl t i x l) by rw [HLN.1]; exact HO.1) (x : Int) (decide (x = t)); rw [Int.toNat_natCast, onl_step HIX.1 HX2.1, HLN.1] at h1
     have e : ((x : Int) == (t : Int)) = decide (x = t) := by
      rw [Bool.eq_iff_iff]; simp; omega
     rw [e]; exact h1
   ·have y1 : decide ((x : Int) < (l.length : Int)) = false := decide_eq_false (by omega); have y2 : decide (x < l.length) = false := decide_eq_false hx; have HX2 := ak (show x = l.length by have := HX.1; omega); clear hln hx
    go_upto_region 7 with (fail)
    have hEn : En t (only t i l) #[.agg #[.slice (some ⟨g6, 0, none⟩) l.length cap6, .int .i64 (t : Int)]] wr := by
     have h1 := HO.1; rw [HX2.1, onl_end, ← only_length t i l] at h1; obtain ⟨q1, q2, q3⟩ := Kd.R_reads' h1; exact ⟨_, cap6, by rw [only_length], q3, q2⟩
    obtain ⟨fn, tmps, assign, body, hy, hR⟩ := HY.1 _ wr (HJ.1 _ _ _ H0.1 (Chg.of_below HB.1 HBB.1)) hEn; clear hEn; refine wpIn_wide (n := n).1 ?_
    gi_wp2
    refine ⟨(fun h => by cases h), hR.mono ?_⟩; rintro e W3 ⟨⟨rfl, h3⟩ | ⟨rfl, h3⟩, hk3⟩
    ·gi_wp2
     go_wp2
     refine bodyPost_ret (results_none rfl _ _ _) rfl ?_; exact ⟨⟨_, rfl⟩, .inl h3⟩
    ·gi_wp2
     go_wp2
     refine bodyPost_ret (results_none rfl _ _ _) rfl ?_; exact ⟨⟨_, rfl⟩, .inr h3⟩
end Go.Proofs.Ytogmjilaiopjmaa.P
end
section
namespace Go.Proofs.Ytogmjilaiopjmaa.P
open Go Go.RowKit Go.Proofs.YtogmjilaiopjmaaW.PrintWords Go.Proofs.YtogmjilaiopjmaaW.PrintLast Go.Proofs.YtogmjilaiopjmaaW.PrintMore
def marks (Ds : List Nat) : List Deferred := Ds.map fun D => { target := .collected D, args := #[] }
structure MarksOk (m : Nat) (Ds : List Nat) (W : World) : Prop where
 nodup : Ds.Nodup
 at_ : ∀ D, D ∈ Ds → m ≤ D ∧ W.heap[D]? = some (.deferred (some []))
theorem MarksOk.nil (m : Nat) (W : World) : MarksOk m [] W := ⟨List.nodup_nil, fun D h => by cases h⟩
theorem MarksOk.move {m : Nat} {Ds : List Nat} {W W' : World} (h : MarksOk m Ds W) (k : ∀ D, m ≤ D → W.heap[D]? = some (.deferred (some [])) → W'.heap[D]? = some (.deferred (some []))) : MarksOk m Ds W' := ⟨h.nodup, fun D hD => ⟨(h.at_ D hD).1, k D (h.at_ D hD).1 (h.at_ D hD).2⟩⟩
theorem MarksOk.cons {m D : Nat} {Ds : List Nat} {W' : World} (h : MarksOk m Ds W') (hD : W'.heap[D]? = some (.deferred (some []))) (hm : m ≤ D) (hn : ∀ E, E ∈ Ds → E < D) : MarksOk m (D :: Ds) W' :=
 ⟨List.nodup_cons.2 ⟨fun hE => by have := hn D hE; omega, h.nodup⟩, fun E hE => by
  rcases List.mem_cons.1 hE with rfl | hE
  ·exact ⟨hm, hD⟩
  ·exact h.at_ E hE⟩
theorem leaves_marks {F : Fence} {n : Nat} {P : Program} {fn : Func} {tmps : Array Value} {R : Ending → World → Prop} (hf : fn.results = #[]) {B m : Nat} (hB : B ≤ m) :
  ∀ (Ds : List Nat) (W : World), MarksOk m Ds W → (∀ W', Chg B m W W' → R (.returned (.tuple #[])) W') → LeavesInM F n P fn tmps R (marks Ds) .returning W
 | [], W, _, h => ⟨_, results_none hf _ _ _, h W (Chg.refl _ _ _)⟩
 | D :: Ds, W, hm, h => by
  have hD := hm.at_ D (by simp); have hnd := List.nodup_cons.1 hm.nodup; refine ⟨by simp, .inl ⟨D, _, rfl, run_takeDeferred hD.2, ?_⟩⟩; have hc : Chg B m W (W.putObj D (.deferred none)) := Chg.put _ hD.2 (by omega) hD.1; refine leaves_marks hf hB Ds _ ⟨hnd.2, fun E hE => ?_⟩ (fun W' hW' => h W' (hc.trans hW')); have hE' := hm.at_ E (by simp [hE]); exact ⟨hE'.1, (World.putObj_heap_other (fun e => hnd.1 (by rw [← e]; exact hE))).trans hE'.2⟩
theorem room_of_none {F : Fence} (hd : F.depth = none) (k : Nat) : F.room k := fun d h => by rw [hd] at h; cases h
theorem RoundIn.anyDepth {F : Fence} (hd : F.depth = none) {m m' : Nat} {P : Program} {l : Nat} {f : FuncId} {tmps : Array Value} {assign body : Code} {w : World} {R : Ending → World → Prop}
  (h : RoundIn F m P l f tmps assign body w R) : RoundIn F m' P l f tmps assign body w R := ⟨h.1, fun c cs _ => h.2 c cs (room_of_none hd _)⟩
theorem C_lt {w : World} {ad : Addr} {n : Nat} {l : List Bool} (h : Kd.C Kd.bool w (some ad) n l) (hn : 0 < n) : ad.block < w.heap.size := by
 obtain ⟨ad', e, hc⟩ := bool_cells h hn
 injection e with e
 subst e; have := World.block_lt_of_cell? w _ (hc 0 hn)
 rwa [add_block] at this
theorem C_ne {w : World} {ad : Addr} {n k : Nat} {l : List Bool} {o : Obj} (h : Kd.C Kd.bool w (some ad) n l) (hn : 0 < n) (hk : w.heap[k]? = some o) (ho : o.isCells = false) : ad.block ≠ k := by
 obtain ⟨ad', e, hc⟩ := bool_cells h hn
 injection e with e
 subst e; rintro rfl; have h0 := hc 0 hn
 unfold World.cell? at h0
 rw [add_block, hk] at h0
 cases o <;> first | (simp at h0; done) | (simp [Obj.isCells] at ho; done)
theorem C_put {w : World} {A : Option Addr} {n k : Nat} {l : List Bool} {o : Obj} (h : Kd.C Kd.bool w A n l) (hk : w.heap[k]? = some o) (ho : o.isCells = false) (o' : Obj) : Kd.C Kd.bool (w.putObj k o') A n l := by
 rcases Nat.eq_zero_or_pos n with h0 | h0
 ·exact ⟨h.1, h.2.1, fun q => by omega⟩
 ·exact C_keep h fun ad e => by subst e; exact World.putObj_heap_other (C_ne h h0 hk ho)
structure ChB (n₀ lo bj bl g4 t j : Nat) (S : Nat → Prop) (lc : List Bool) (A : Option Addr) (c : Nat) (W : World) : Prop where
 hbj : W.heap[bj]? = some (.cells #[.int .i64 (j : Int)] 3 (0, 0))
 hbl : W.heap[bl]? = some (.cells #[.slice A lc.length c, .int .i64 (t : Int)] 27 (0, 0))
 hb4 : W.heap[g4]? = some (.cells #[.func (.yield lo) #[] #[]] 77 (0, 0))
 row : Kd.C Kd.bool W A lc.length lc
 cap : lc.length ≤ c
 rowS : ∀ ad, A = some ad → (ad.block < n₀ ∨ S ad.block ∧ ad.block ≠ lo) ∧ ad.block ≠ bl
theorem ChB.move {n₀ lo bj bl g4 t j : Nat} {S : Nat → Prop} {lc : List Bool} {A : Option Addr} {c : Nat} {W W' : World} (h : ChB n₀ lo bj bl g4 t j S lc A c W) (hl : 0 < lc.length)
  (k : ∀ b o, W.heap[b]? = some o → (b = bj ∨ b = bl ∨ b = g4 ∨ ∃ ad, A = some ad ∧ b = ad.block) → o.isCells = true → W'.heap[b]? = some o) : ChB n₀ lo bj bl g4 t j S lc A c W' := by
 refine ⟨k _ _ h.hbj (.inl rfl) rfl, k _ _ h.hbl (.inr (.inl rfl)) rfl, k _ _ h.hb4 (.inr (.inr (.inl rfl))) rfl, C_keep h.row fun ad e => ?_, h.cap, h.rowS⟩; subst e; have hlt := C_lt h.row hl; have ho : W.heap[ad.block]? = some W.heap[ad.block] := Array.getElem?_eq_getElem hlt; rw [ho]; refine k _ _ ho ?_ ?_
 ·exact .inr (.inr (.inr ⟨ad, rfl, rfl⟩))
 ·cases hc : W.heap[ad.block].isCells with
  | true => rfl
  | false => exact absurd rfl (C_ne h.row hl ho hc)
theorem chWorld_at (w : World) (A : Option Addr) (n c : Nat) (t i j : Int) : (chWorld w A n c t i j).heap.size = w.heap.size + 3 ∧ Below w.heap.size w (chWorld w A n c t i j) ∧ (chWorld w A n c t i j).heap[w.heap.size]? = some (.cells #[.slice A n c, .int .i64 t] 27 (0, 0)) ∧
  (chWorld w A n c t i j).heap[w.heap.size + 1]? = some (.cells #[.int .i64 i] 3 (0, 0)) ∧ (chWorld w A n c t i j).heap[w.heap.size + 1 + 1]? = some (.cells #[.int .i64 j] 3 (0, 0)) := by
 unfold chWorld
 refine ⟨by simp, below_alloc (below_alloc (below_alloc (Below.refl _ _) _) _) _, blk_alloc (alloc2_fst _ _ _) _, blk_alloc (alloc2_snd _ _ _) _, ?_⟩; have := blk_new ((w.alloc (.cells #[.slice A n c, .int .i64 t] 27)).alloc (.cells #[.int .i64 i] 3)) (.cells #[.int .i64 j] 3)
 simpa using this
end Go.Proofs.Ytogmjilaiopjmaa.P
end
section
namespace Go.Proofs.Ytogmjilaiopjmaa.P
open Go Go.RowKit Go.Proofs.YtogmjilaiopjmaaW.PrintWords Go.Proofs.YtogmjilaiopjmaaW.PrintLast Go.Proofs.YtogmjilaiopjmaaW.PrintMore
attribute [local go_sem] Oper.semAt_some
def ChSeq (t j : Nat) : Prop := ∀ (n i bj bl bf n₀ B : Nat) (A : Option Addr) (c : Nat) (l : List Bool) (S : Nat → Prop) (w : World), l.length ≤ 1000 → t < l.length → i ≤ l.length →
 w.heap[bj]? = some (.cells #[.int .i64 (j : Int)] 3 (0, 0)) → w.heap[bl]? = some (.cells #[.slice A l.length c, .int .i64 (t : Int)] 27 (0, 0)) → w.heap[bf]? = some (.cells #[.int .i64 (i : Int)] 3 (0, 0)) →
 Kd.C Kd.bool w A l.length l → l.length ≤ c → n₀ ≤ B → B ≤ bl → (∀ k, w.heap.size ≤ k → S k) → S bj → S bl → (∀ ad, A = some ad → (ad.block < n₀ ∨ S ad.block) ∧ ad.block ≠ bl) →
 SeqC Fence.wide n Try.prog 90 #[.pointer (some ⟨bj, 0, none⟩), .pointer (some ⟨bl, 0, none⟩), .pointer (some ⟨bf, 0, none⟩)] (En t) n₀ B S (chs t j i l) w
structure ChI (W0 : World) (n₀ lo bj bl g4 t j N : Nat) (S : Nat → Prop) (J : List (List Bool) → World → Prop) (full : List (List Bool)) (x : Nat) (pre : List (List Bool)) (lc : List Bool) (A : Option Addr) (c : Nat) (Ds : List Nat) (W : World) : Prop where
 mem : ChB n₀ lo bj bl g4 t (j + 1) S lc A c W
 len : lc.length = N
 le : x ≤ N
 all : full = pre ++ chsGo (chs t j) t (N - x) x lc
 hJ : J pre W
 mks : MarksOk W0.heap.size Ds W
 size : W0.heap.size ≤ W.heap.size
 g4 : W0.heap.size ≤ g4
def ChInv (W : World) (n₀ lo bj bl bf g4 t j N : Nat) (S : Nat → Prop) (J : List (List Bool) → World → Prop) (full : List (List Bool)) (a : Act) (wr : World) : Prop :=
 ∃ (x : Nat) (pre : List (List Bool)) (lc : List Bool) (A' : Option Addr) (c' : Nat) (Ds : List Nat) (u8 u9 u10 u11 u12 u13 u14 u15 u16 u17 u18 u19 u20 u21 u22 u23 u24 u25 u26 u27 u28 u29 u30 u31 u32 u33 u34 u35 u36 u37 u38 u39 u40 u41 u42 u43 u44 u45 u46 u47 u48 u49 u50 u51 u52 u53 u54 u55 u56 u57 u58 u59 u60 u61 u62 u63 u64 u65 u66 u67 u68 u69 u70 u71 u72 u73 u74 : Value), a = { tmps := #[.func (.yield lo) #[] #[], .pointer (some ⟨bj, 0, none⟩), .pointer (some ⟨bl, 0, none⟩), .pointer (some ⟨bf, 0, none⟩), .pointer (some ⟨g4, 0, none⟩), undef, undef, .int .i64 (x : Int), u8, u9, u10, u11, u12, u13, u14, u15, u16, u17, u18, u19, u20, u21, u22, u23, u24, u25, u26, u27, u28, u29, u30, u31, u32, u33, u34, u35, u36, u37, u38, u39, u40, u41, u42, u43, u44, u45, u46, u47, u48, u49, u50, u51, u52, u53, u54, u55, u56, u57, u58, u59, u60, u61, u62, u63, u64, u65, u66, u67, u68, u69, u70, u71, u72, u73, u74], defers := marks Ds } ∧ ChI W n₀ lo bj bl g4 t j N S J full x pre lc A' c' Ds wr
theorem ChInv.elim {W : World} {n₀ lo bj bl bf g4 t j N : Nat} {S : Nat → Prop} {J : List (List Bool) → World → Prop} {full : List (List Bool)} {a : Act} {wr : World} (G : Act → Prop) (h : ChInv W n₀ lo bj bl bf g4 t j N S J full a wr)
  (k : ∀ (x : Nat) (pre : List (List Bool)) (lc : List Bool) (A' : Option Addr) (c' : Nat) (Ds : List Nat) (u8 u9 u10 u11 u12 u13 u14 u15 u16 u17 u18 u19 u20 u21 u22 u23 u24 u25 u26 u27 u28 u29 u30 u31 u32 u33 u34 u35 u36 u37 u38 u39 u40 u41 u42 u43 u44 u45 u46 u47 u48 u49 u50 u51 u52 u53 u54 u55 u56 u57 u58 u59 u60 u61 u62 u63 u64 u65 u66 u67 u68 u69 u70 u71 u72 u73 u74 : Value), ChI W n₀ lo bj bl g4 t j N S J full x pre lc A' c' Ds wr → G { tmps := #[.func (.yield lo) #[] #[], .pointer (some ⟨bj, 0, none⟩), .pointer (some ⟨bl, 0, none⟩), .pointer (some ⟨bf, 0, none⟩), .pointer (some ⟨g4, 0, none⟩), undef, undef, .int .i64 (x : Int), u8, u9, u10, u11, u12, u13, u14, u15, u16, u17, u18, u19, u20, u21, u22, u23, u24, u25, u26, u27, u28, u29, u30, u31, u32, u33, u34, u35, u36, u37, u38, u39, u40, u41, u42, u43, u44, u45, u46, u47, u48, u49, u50, u51, u52, u53, u54, u55, u56, u57, u58, u59, u60, u61, u62, u63, u64, u65, u66, u67, u68, u69, u70, u71, u72, u73, u74], defers := marks Ds }) : G a := by
 unfold ChInv at h
 refine Exists.elim h fun x h => ?_; refine Exists.elim h fun pre h => ?_; refine Exists.elim h fun lc h => ?_; refine Exists.elim h fun A' h => ?_; refine Exists.elim h fun c' h => ?_; refine Exists.elim h fun Ds h => ?_; refine Exists.elim h fun u8 h => ?_; refine Exists.elim h fun u9 h => ?_; refine Exists.elim h fun u10 h => ?_; refine Exists.elim h fun u11 h => ?_; refine Exists.elim h fun u12 h => ?_; refine Exists.elim h fun u13 h => ?_; refine Exists.elim h fun u14 h => ?_; refine Exists.elim h fun u15 h => ?_; refine Exists.elim h fun u16 h => ?_; refine Exists.elim h fun u17 h => ?_; refine Exists.elim h fun u18 h => ?_; refine Exists.elim h fun u19 h => ?_; refine Exists.elim h fun u20 h => ?_; refine Exists.elim h fun u21 h => ?_; refine Exists.elim h fun u22 h => ?_; refine Exists.elim h fun u23 h => ?_; refine Exists.elim h fun u24 h => ?_; refine Exists.elim h fun u25 h => ?_; refine Exists.elim h fun u26 h => ?_; refine Exists.elim h fun u27 h => ?_; refine Exists.elim h fun u28 h => ?_; refine Exists.elim h fun u29 h => ?_; refine Exists.elim h fun u30 h => ?_; refine Exists.elim h fun u31 h => ?_; refine Exists.elim h fun u32 h => ?_; refine Exists.elim h fun u33 h => ?_; refine Exists.elim h fun u34 h => ?_; refine Exists.elim h fun u35 h => ?_; refine Exists.elim h fun u36 h => ?_; refine Exists.elim h fun u37 h => ?_; refine Exists.elim h fun u38 h => ?_; refine Exists.elim h fun u39 h => ?_; refine Exists.elim h fun u40 h => ?_; refine Exists.elim h fun u41 h => ?_; refine Exists.elim h fun u42 h => ?_; refine Exists.elim h fun u43 h => ?_; refine Exists.elim h fun u44 h => ?_; refine Exists.elim h fun u45 h => ?_; refine Exists.elim h fun u46 h => ?_; refine Exists.elim h fun u47 h => ?_; refine Exists.elim h fun u48 h => ?_; refine Exists.elim h fun u49 h => ?_; refine Exists.elim h fun u50 h => ?_; refine Exists.elim h fun u51 h => ?_; refine Exists.elim h fun u52 h => ?_; refine Exists.elim h fun u53 h => ?_; refine Exists.elim h fun u54 h => ?_; refine Exists.elim h fun u55 h => ?_; refine Exists.elim h fun u56 h => ?_; refine Exists.elim h fun u57 h => ?_; refine Exists.elim h fun u58 h => ?_; refine Exists.elim h fun u59 h => ?_; refine Exists.elim h fun u60 h => ?_; refine Exists.elim h fun u61 h => ?_; refine Exists.elim h fun u62 h => ?_; refine Exists.elim h fun u63 h => ?_; refine Exists.elim h fun u64 h => ?_; refine Exists.elim h fun u65 h => ?_; refine Exists.elim h fun u66 h => ?_; refine Exists.elim h fun u67 h => ?_; refine Exists.elim h fun u68 h => ?_; refine Exists.elim h fun u69 h => ?_; refine Exists.elim h fun u70 h => ?_; refine Exists.elim h fun u71 h => ?_; refine Exists.elim h fun u72 h => ?_; refine Exists.elim h fun u73 h => ?_; refine Exists.elim h fun u74 h => ?_; rw [h.1]; exact k _ _ _ _ _ _ _ _ _ _ _ _ _ _ _ _ _ _ _ _ _ _ _ _ _ _ _ _ _ _ _ _ _ _ _ _ _ _ _ _ _ _ _ _ _ _ _ _ _ _ _ _ _ _ _ _ _ _ _ _ _ _ _ _ _ _ _ _ _ _ _ _ _ h.2
def ChMu (N : Nat) (a : Act) (_ : World) : Nat := N - (intOf (a.tmps.getD 7 undef)).toNat
set_option maxHeartbeats 8000000 in
set_option maxRecDepth 100000 in
set_option pp.deepTerms true in
set_option pp.maxSteps 10000000 in
theorem chS_walk {t j : Nat} (hj1000 : j ≤ 1000) (ih : ChSeq t j) : ChSeq t (j + 1) := by
 intro n i bj bl bf n₀ B A c l S w hn ht hi hj hl hf hr hc hnB hB hS hSj hSl hrow lo J Jx W hW hlo hloW hJ hJx hY h0; have hu25 := Try.underlying25; have hu27 := Try.underlying27; have HB := ak (Below.refl W.heap.size W); have BKj := ak (blk_below hj hW); have BKl := ak (blk_below hl hW); have BKf := ak (blk_below hf hW); have HLJ := ak (show bj < w.heap.size from blk_lt hj); have HLL := ak (show bl < w.heap.size from blk_lt hl); have HRW := ak (show ∀ ad, A = some ad → ad.block < w.heap.size from fun ad e => by subst e; exact C_lt hr (by omega)); have HR := ak (Kd.C_below hr hW); have HC := ak hc; have HN := ak hn; have HI := ak hi; have HT := ak ht; have HNB := ak hnB; have HBB := ak hB; have HS := ak hS; have HSJ := ak hSj; have HSL := ak hSl; have HRS := ak hrow; have HWS := ak hW.size; have HLO := ak hlo; have HLW := ak hloW; have HJ := ak hJ; have HJX := ak hJx; have HY := ak hY; have H0 := ak h0; have IH := ak ih; clear hn ht hi hj hl hf hr hc hnB hB hS hSj hSl hrow hW hlo hloW hJ hJx hY h0 ih; obtain ⟨jz, hjz⟩ : ∃ jz : Int, jz = ((j + 1 : Nat) : Int) := ⟨_, rfl⟩; rw [← hjz] at BKj; have HJZ := ak hjz; have z0 : (jz == 0) = false := beq_eq_false_iff_ne.2 (by omega); clear hjz; refine callsIn_wide.2 (callsIn_wide (n := n + 5).1 ?_); refine callsIn_of_wp_marks Try.func90 rfl trivial ?_ rfl; simp only [Try.ntmps90, List.size_toArray, List.length_cons, List.length_nil, Nat.reduceAdd, Nat.reduceSub, Array.replicate_succ, Array.replicate_zero, List.push_toArray, List.append_toArray, List.nil_append, List.cons_append]; refine wpIn_wide.2 ?_
 go_upto_region 1 with ((with_reducible refine gate_dst (N := 4) rfl ?_); refine box_event ?hg (N := 4) ?hd (cs := #[.func (.yield lo) #[] #[]]) (t := 77) ?hr ?_; (case hd => rfl); (case hg => rfl); (case hr => first | (go_simp; done) | (go_simp; rfl)); intro g4 hg w4 hbox hb; have GE4 := ak (show W.heap.size ≤ g4 by have := HB.1.size; omega); have n_BKj := ak (blk_below BKj.1 hb); have n_BKl := ak (blk_below BKl.1 hb); have n_BKf := ak (blk_below BKf.1 hb); have n_HB := ak (below_step HB.1 hb); clear BKj; clear BKl; clear BKf; clear HB; have BKj := n_BKj; have BKl := n_BKl; have BKf := n_BKf; have HB := n_HB; clear n_BKj n_BKl n_BKf n_HB; have BK4 := ak hbox; clear hbox hb hg)
 have cj := blk_cell BKj.1 0; have cf := blk_cell BKf.1 0
 simp at cj cf
 go_wp2
 clear cj cf; refine wpIn_wide (n := n + 5).1 ?_; refine wpIn_loop (ChInv W n₀ lo bj bl bf g4 t j l.length S J (chs t (j + 1) i l)) (ChMu l.length) ?start ?round
 case start =>
  unfold ChInv
  refine ⟨i, [], l, A, c, [], _, _, _, _, _, _, _, _, _, _, _, _, _, _, _, _, _, _, _, _, _, _, _, _, _, _, _, _, _, _, _, _, _, _, _, _, _, _, _, _, _, _, _, _, _, _, _, _, _, _, _, _, _, _, _, _, _, _, _, _, _, _, _, _, _, _, _, rfl, ?_⟩; exact ⟨⟨by rw [← HJZ.1]; exact BKj.1, BKl.1, BK4.1, Kd.C_below HR.1 HB.1, HC.1, fun ad e => ⟨((HRS.1 ad e).1).imp id fun h => ⟨h, by have := HRW.1 ad e; have := HLO.1; omega⟩, (HRS.1 ad e).2⟩⟩, rfl, HI.1, by rw [chs]; rfl, HJ.1 _ _ _ H0.1 (Chg.of_below HB.1 (by have := HBB.1; have := HLL.1; have := HWS.1; omega)), MarksOk.nil _ _, HB.1.size, GE4.1⟩
 case round =>
  clear BKj BKl BKf HB BK4 HR HC HRS HRW H0; intro a wr hinv; refine ChInv.elim (fun a => Code.wpIn Fence.wide (n + 5) Try.prog _ (Exit.then (fun a' w' => ChInv W n₀ lo bj bl bf g4 t j l.length S J (chs t (j + 1) i l) a' w' ∧ ChMu l.length a' w' < ChMu l.length a wr) _) a wr) hinv ?_; clear hinv; intro x pre lc A' c' Ds u8 u9 u10 u11 u12 u13 u14 u15 u16 u17 u18 u19 u20 u21 u22 u23 u24 u25 u26 u27 u28 u29 u30 u31 u32 u33 u34 u35 u36 u37 u38 u39 u40 u41 u42 u43 u44 u45 u46 u47 u48 u49 u50 u51 u52 u53 u54 u55 u56 u57 u58 u59 u60 u61 u62 u63 u64 u65 u66 u67 u68 u69 u70 u71 u72 u73 u74 hinv; have INV := ak hinv; have cj := blk_cell hinv.mem.hbj 0; have cl0 := blk_cell hinv.mem.hbl 0; have cl1 := blk_cell hinv.mem.hbl 1; have c4 := blk_cell hinv.mem.hb4 0
  simp at cj cl0 cl1 c4
  clear hinv; refine wpIn_wide.2 ?_
  by_cases hx : x < lc.length
  ·have y1 : decide ((x : Int) < (lc.length : Int)) = true := decide_eq_true (by omega); have y2 : decide (x < lc.length) = true := decide_eq_true hx
   have y3 : (x : Int) < (lc.length : Int) := by omega
   have HX2 := ak hx; obtain ⟨ad, ead, hcell⟩ := bool_cells INV.1.mem.row (by omega); have cx := hcell x hx; have HAD := ak ead; subst ead; clear hcell hx
   have z1 : wrap64 ((x : Int) + 1) = ((x + 1 : Nat) : Int) := by unfold wrap64; have := HX2.1; have := HN.1; have := INV.1.len; omega
   cases hb : lc.getD x false with
   | false =>
    rw [hb] at cx; have HBV := ak hb; clear hb
    go_wp2
    have I := INV.1
    have hall : chs t (j + 1) i l = pre ++ chsGo (chs t j) t (l.length - (x + 1)) (x + 1) lc := by
     have hall := I.all; rw [show l.length - x = (l.length - (x + 1)) + 1 by have := HX2.1; have := I.len; omega, chsGo, if_neg (fun h => by rw [HBV.1] at h; cases h.1)] at hall; exact hall
    have G1 : ChI W n₀ lo bj bl g4 t j l.length S J (chs t (j + 1) i l) (x + 1) pre lc (some ad) c' Ds wr := { mem := I.mem, len := I.len, le := (by have := HX2.1; have := I.len; omega), all := hall, hJ := I.hJ, mks := I.mks, size := I.size, g4 := I.g4 }; refine ⟨?_, ?_⟩
    ·unfold ChInv
     exact ⟨x + 1, pre, lc, some ad, c', Ds, _, _, _, _, _, _, _, _, _, _, _, _, _, _, _, _, _, _, _, _, _, _, _, _, _, _, _, _, _, _, _, _, _, _, _, _, _, _, _, _, _, _, _, _, _, _, _, _, _, _, _, _, _, _, _, _, _, _, _, _, _, _, _, _, _, _, _, rfl, G1⟩
    ·show l.length - (intOf (.int .i64 ((x : Int) + 1))).toNat < l.length - (intOf (.int .i64 (x : Int))).toNat
     have I := INV.1; simp only [intOf]; have := HX2.1; have := I.len
     omega
   | true =>
    rw [hb] at cx; have HBV := ak hb; clear hb
    by_cases hxt : x = t
    ·have HXT := ak hxt; have z2 : ((x : Int) == (t : Int)) = true := beq_iff_eq.2 (by omega); clear hxt
     go_wp2
     have I := INV.1
     have hall : chs t (j + 1) i l = pre ++ chsGo (chs t j) t (l.length - (x + 1)) (x + 1) lc := by
      have hall := I.all; rw [show l.length - x = (l.length - (x + 1)) + 1 by have := HX2.1; have := I.len; omega, chsGo, if_neg (fun h => h.2 HXT.1)] at hall; exact hall
     have G1 : ChI W n₀ lo bj bl g4 t j l.length S J (chs t (j + 1) i l) (x + 1) pre lc (some ad) c' Ds wr := { mem := I.mem, len := I.len, le := (by have := HX2.1; have := I.len; omega), all := hall, hJ := I.hJ, mks := I.mks, size := I.size, g4 := I.g4 }; refine ⟨?_, ?_⟩
     ·unfold ChInv
      exact ⟨x + 1, pre, lc, some ad, c', Ds, _, _, _, _, _, _, _, _, _, _, _, _, _, _, _, _, _, _, _, _, _, _, _, _, _, _, _, _, _, _, _, _, _, _, _, _, _, _, _, _, _, _, _, _, _, _, _, _, _, _, _, _, _, _, _, _, _, _, _, _, _, _, _, _, _, _, _, rfl, G1⟩
     ·show l.length - (intOf (.int .i64 ((x : Int) + 1))).toNat < l.length - (intOf (.int .i64 (x : Int))).toNat
      simp only [intOf]; have := HX2.1; have := I.len
      omega
    ·have HXT := ak hxt; have z2 : ((x : Int) == (t : Int)) = false := beq_eq_false_iff_ne.2 (by omega)
     have z3 : wrap64 (j : Int) = (j : Int) := by unfold wrap64; omega
     clear hxt
     go_wp2_with (go_at_call 72; refine (choices_calls _ _ _ _ _ _ _).mono ?_; rintro e w72 ⟨rfl, rfl⟩)
     have I := INV.1; obtain ⟨hs1, hw1b, hb0, hb1, hb2⟩ := chWorld_at wr (some ad) lc.length c' (t : Int) ((x : Int) + 1) (j : Int); obtain ⟨w1, hw1⟩ : ∃ w1, chWorld wr (some ad) lc.length c' (t : Int) ((x : Int) + 1) (j : Int) = w1 := ⟨_, rfl⟩; rw [hw1] at hs1 hw1b hb0 hb1 hb2 ⊢; clear hw1
     have hpos : 0 < lc.length := by have := HX2.1; omega
     have hadlt := C_lt I.mem.row hpos; have hjlt := blk_lt I.mem.hbj; have hllt := blk_lt I.mem.hbl; have h4lt := blk_lt I.mem.hb4
     have hrest : chs t (j + 1) i l = pre ++ (chs t j (x + 1) lc ++ chsGo (chs t j) t (l.length - (x + 1)) (x + 1) (lc.set x false)) := by
      have hall := I.all; rw [show l.length - x = (l.length - (x + 1)) + 1 by have := HX2.1; have := I.len; omega, chsGo, if_pos ⟨HBV.1, HXT.1⟩] at hall; exact hall
     have hWr := I.size
     have hBr : B ≤ wr.heap.size := by have := HBB.1; have := HLL.1; have := HWS.1; omega
     have hNr : n₀ ≤ wr.heap.size := by have := HNB.1; omega
     have hlor : lo < wr.heap.size := by have := HLW.1; omega
     have hJ1 : J pre w1 := HJ.1 _ _ _ I.hJ (Chg.of_below hw1b hBr)
     have hmv : ∀ {W1 W2 : World}, ChB n₀ lo bj bl g4 t (j + 1) S lc (some ad) c' W1 → (∀ k, k < wr.heap.size → W2.heap[k]? = W1.heap[k]?) → ChB n₀ lo bj bl g4 t (j + 1) S lc (some ad) c' W2 := fun h hk => h.move hpos fun b o ho hb _ => by
      refine (hk b ?_).trans ho
      rcases hb with rfl | rfl | rfl | ⟨ad', e, rfl⟩
      ·exact hjlt
      ·exact hllt
      ·exact h4lt
      ·cases e; exact hadlt
     have hDlt : ∀ D, D ∈ Ds → D < wr.heap.size := fun D hD => blk_lt (I.mks.at_ D hD).2; have hmkmv : ∀ {W1 W2 : World}, MarksOk W.heap.size Ds W1 → (∀ k, k < wr.heap.size → W2.heap[k]? = W1.heap[k]?) → MarksOk W.heap.size Ds W2 := fun h hk => ⟨h.nodup, fun D hD => ⟨(h.at_ D hD).1, (hk D (hDlt D hD)).trans (h.at_ D hD).2⟩⟩
     have hIab : Ab wr.heap.size w1.heap.size (fun (pre2 : List (List Bool)) W2 => ChB n₀ lo bj bl g4 t (j + 1) S lc (some ad) c' W2 ∧ J (pre ++ pre2) W2 ∧ MarksOk W.heap.size Ds W2 ∧ wr.heap.size ≤ W2.heap.size) := fun s W1 W2 hs hc =>
      ⟨hmv hs.1 hc.below.block, HJ.1 _ _ _ hs.2.1 (hc.up hBr (by omega)), hmkmv hs.2.2.1 hc.below.block, Nat.le_trans hs.2.2.2 hc.below.size⟩
     refine wpIn_wide (n := n + 5).1 ?_
     refine wpIn_rangeC (α := List Bool) (n := n + 5) rfl (by omega) (gf := 90) (lb := #[.pointer (some ⟨wr.heap.size + 1 + 1, 0, none⟩), .pointer (some ⟨wr.heap.size, 0, none⟩), .pointer (some ⟨wr.heap.size + 1, 0, none⟩)]) rfl trivial (enters_of Try.func90 (by kernel_rfl) rfl) (En := En t) (n₀ := n₀) (B := wr.heap.size) (S := fun k => S k ∧ k ≠ lo) (xs := chs t j (x + 1) lc)
      (IH.1 (n + 5 - 1) (x + 1) (wr.heap.size + 1 + 1) wr.heap.size (wr.heap.size + 1) n₀ wr.heap.size (some ad) c' lc (fun k => S k ∧ k ≠ lo) w1 (by have := HN.1; have := I.len; omega) (by have := HT.1; have := I.len; omega) (by have := HX2.1; omega) hb2 hb0 hb1 (Kd.C_below I.mem.row hw1b) I.mem.cap hNr (Nat.le_refl _)
       (fun k hk => ⟨HS.1 k (by have := HWS.1; omega), by omega⟩) ⟨HS.1 _ (by have := HWS.1; omega), by omega⟩ ⟨HS.1 _ (by have := HWS.1; omega), by omega⟩ (fun a e => ⟨(I.mem.rowS a e).1, by cases e; omega⟩))
      hNr (fun k hk => ⟨HS.1 k (by have := HWS.1; omega), by omega⟩) (by omega) (fun x v W2 hen => by obtain ⟨_, _, rfl, _⟩ := hen; rfl)
      (fun pre2 W2 => ChB n₀ lo bj bl g4 t (j + 1) S lc (some ad) c' W2 ∧ J (pre ++ pre2) W2 ∧ MarksOk W.heap.size Ds W2 ∧ wr.heap.size ≤ W2.heap.size)
      (fun cd pre2 W2 => cd = .ret ∧ Jx (pre ++ pre2) W2 ∧ MarksOk W.heap.size Ds W2)
      hIab
      (fun cd s W1 W2 hs hc => ⟨hs.1, HJX.1 _ _ _ hs.2.1 (hc.up hBr (by omega)), hmkmv hs.2.2 hc.below.block⟩)
      ⟨hmv I.mem hw1b.block, by rw [List.append_nil]; exact hJ1, hmkmv I.mks hw1b.block, hw1b.size⟩
      (fun x2 a' W2 => ∃ (A2 : Option Addr) (c2 gx : Nat), a' = { tmps := #[.func (.yield lo) #[] #[], .pointer (some ⟨bj, 0, none⟩), .pointer (some ⟨bl, 0, none⟩), .pointer (some ⟨bf, 0, none⟩), .pointer (some ⟨g4, 0, none⟩), undef, undef, .int .i64 (x : Int), .pointer (some ⟨gx, 0, none⟩), u9, u10, u11, u12, u13, u14, u15, u16, u17, u18, u19, u20, u21, u22, u23, u24, u25, u26, u27, u28, u29, u30, u31, u32, u33, u34, u35, u36, .int .i64 (x : Int), .pointer (some ⟨bl, 0, none⟩), .slice (some ad) lc.length c', .int .i64 (lc.length : Int), .bool true, u42, u43, .pointer (some ⟨bl, 0, none⟩), .slice (some ad) lc.length c', .int .i64 (x : Int), .pointer (some (ad.add x)), .bool true, .bool false, .bool false, .int .i64 (x : Int), .pointer (some ⟨bl, 1, none⟩), .int .i64 (t : Int), .bool false, .bool false, .agg #[.slice (some ad) lc.length c', .int .i64 (t : Int)], .int .i64 (x : Int), .int .i64 ((x : Int) + 1), .int .i64 ((j : Int) + 1), .int .i64 (j : Int), .func (.func 90) #[] #[.pointer (some ⟨wr.heap.size + 1 + 1, 0, none⟩), .pointer (some ⟨wr.heap.size, 0, none⟩), .pointer (some ⟨wr.heap.size + 1, 0, none⟩)], .agg #[.slice A2 x2.length c2, .int .i64 (t : Int)], u63, u64, u65, u66, u67, u68, u69, u70, u71, u72, u73, u74], defers := [] } ∧ W2.heap[gx]? = some (.cells #[.slice A2 x2.length c2, .int .i64 (t : Int)] 27 (0, 0)) ∧ Kd.C Kd.bool W2 A2 x2.length x2 ∧ x2.length ≤ c2)
      (fun x2 a' W2 r o' hax hl => by
       obtain ⟨A2, c2, gx, e, hgx, hC, hle⟩ := hax; refine ⟨A2, c2, gx, e, (World.putObj_heap_other (fun e => ?_)).trans hgx, C_put hC hl rfl o', hle⟩; rw [e, hl] at hgx
       cases hgx)
      ?assign ?body ?done ?stop
     case assign =>
      intro pre2 x2 v W2 K hi hen hlt hK; obtain ⟨A2, c2, rfl, hC, hle⟩ := hen; have c40 := blk_cell hi.1.hb4 0
      gi_wp2
      exact hK _ _ (Ka.alloc W2 _ (Nat.le_trans hNr hi.2.2.2)) (hIab _ _ _ hi (Chg.alloc W2 _ hi.2.2.2)) ⟨A2, c2, W2.heap.size, rfl, blk_new _ _, Kd.C_below hC ((Below.refl _ _).alloc (Nat.le_refl _) _), hle⟩
     case body =>
      intro pre2 x2 post a' W2 hxs hlt hi hax; obtain ⟨A2, c2, gx, rfl, hgx, hC, hle⟩ := hax; obtain ⟨hm, hJ2, hmk, hsz⟩ := hi; have c40 := blk_cell hm.hb4 0; have cg0 := blk_cell hgx 0; have cg1 := blk_cell hgx 1
      simp at c40 cg0 cg1
      obtain ⟨fn, tmps, assign, body, hy, hR⟩ := HY.1 (pre ++ pre2) x2 (post ++ chsGo (chs t j) t (l.length - (x + 1)) (x + 1) (lc.set x false)) #[.agg #[.slice A2 x2.length c2, .int .i64 (t : Int)]] W2 (by rw [hrest, hxs]; simp) hJ2 ⟨A2, c2, rfl, hC, hle⟩; have HM := ak hm; have HMK := ak hmk; have HRI := ak hR; clear hm hmk hR hrest hxs hIab hmv hmkmv hDlt
      gi_wp2
      refine RoundIn.mono (F := Fence.wide.inRound _) (RoundIn.anyDepth (F := Fence.wide) rfl HRI.1) ?_; clear HRI hy; rintro e W3 ⟨h3, hk3⟩
      have HM3 : Aside0 (ChB n₀ lo bj bl g4 t (j + 1) S lc (some ad) c' W3) := ⟨HM.1.move hpos fun b o ho hb _ => by
       rcases hb with rfl | rfl | rfl | ⟨ad', e, rfl⟩
       ·exact hk3.same _ _ HSJ.1 (by have := HLJ.1; have := HLO.1; omega) ho
       ·exact hk3.same _ _ HSL.1 (by have := HLL.1; have := HLO.1; omega) ho
       ·exact hk3.same _ _ (HS.1 _ (by have := I.g4; have := HWS.1; omega)) (by have := I.g4; have := HLW.1; omega) ho
       ·cases e
        rcases (HM.1.rowS ad rfl).1 with h | h
        ·exact (hk3.below.block _ h).trans ho
        ·exact hk3.same _ _ h.1 h.2 ho⟩
      have HMK3 : Aside0 (MarksOk W.heap.size Ds W3) := ⟨HMK.1.move fun D hD ho => hk3.same _ _ (HS.1 D (by have := HWS.1; omega)) (by have := HLW.1; omega) ho⟩; have HKA : Aside0 (Ka n₀ (fun k => S k ∧ k ≠ lo) W2 W3) := ⟨hk3.ka fun k hk => hk⟩; have HSZ3 : Aside0 (wr.heap.size ≤ W3.heap.size) := ⟨Nat.le_trans hsz hk3.below.size⟩
      rcases h3 with ⟨rfl, h3⟩ | ⟨rfl, h3⟩
      ·have H3 := ak h3; clear h3 hk3
       gi_wp2
       exact ⟨HKA.1, HM3.1, by rw [← List.append_assoc]; exact H3.1, HMK3.1, HSZ3.1⟩
      ·have H3 := ak h3; clear h3 hk3
       gi_wp2
       exact ⟨HKA.1, rfl, by rw [← List.append_assoc]; exact H3.1, HMK3.1⟩
     case stop =>
      intro cd pre2 W2 hpre hx hD; obtain ⟨rfl, hx2, hmk⟩ := hx; have HX3 := ak hx2; have HD3 := ak hD; have HMK := ak hmk; have HPR := ak hpre; have HRE := ak hrest; have HDL := ak hDlt; clear hx2 hD hmk hpre hrest hDlt hIab hmv hmkmv
      gi_wp2
      refine leaves_marks rfl (B := B) (m := W.heap.size) (by have := HBB.1; have := HLL.1; have := HWS.1; omega) (w1.heap.size :: Ds) W2 (HMK.1.cons HD3.1 (by omega) (fun E hE => by have := HDL.1 E hE; omega)) (fun W' hc => ⟨⟨_, rfl⟩, .inr ⟨pre ++ pre2, ?_, HJX.1 _ _ _ HX3.1 hc⟩⟩); rw [HRE.1]; obtain ⟨q, hq⟩ := HPR.1; exact ⟨q ++ chsGo (chs t j) t (l.length - (x + 1)) (x + 1) (lc.set x false), by rw [← hq]; simp⟩
     case done =>
      intro W2 hi hD; have HI2 := ak hi; have HD3 := ak hD; have HRE := ak hrest; have HDL := ak hDlt; have cl0 := blk_cell hi.1.hbl 0; have fl0 := blk_frozen hi.1.hbl 0
      simp at cl0
      clear hi hD hrest hDlt hIab hmv hmkmv; have HF := ak (show slices_Clone_bool_bool.f lc = some lc by unfold slices_Clone_bool_bool.f; rw [if_pos (by have := HN.1; have := I.len; omega)]); have BKl := ak HI2.1.1.hbl; have HROW := ak HI2.1.1.row; have HCAP := ak I.mem.cap
      gi_wp2
      go_upto_region 16 with (go_at_call 66; refine (slices_Clone_bool_bool.calls _ _ lc _ _ HROW.1 HCAP.1 HF.1).mono ?_; rintro e w66 ⟨v66, rfl, hR, hb⟩; obtain ⟨g6, cap6, rfl, hg6⟩ := R_form hR hpos; have nBKl := ak (blk_below BKl.1 hb); clear cl0 fl0; have fl0 := blk_frozen nBKl.1 0; have cl0 := blk_cell nBKl.1 0; have HR6 := ak hR; have HG6 := ak hg6; have HB6 := ak hb; clear hR hg6 hb)
      have N6l := ak (show g6 ≠ bl from fun e => Kd.R_ne HR6.1 nBKl.1 (by decide) (by simp [Value.ownBlock, e])); have N6j := ak (show g6 ≠ bj from fun e => Kd.R_ne HR6.1 (blk_below HI2.1.1.hbj HB6.1) (by decide) (by simp [Value.ownBlock, e])); have N64 := ak (show g6 ≠ g4 from fun e => Kd.R_ne HR6.1 (blk_below HI2.1.1.hb4 HB6.1) (by decide) (by simp [Value.ownBlock, e])); have HR7 := ak (Kd.R_set HR6.1 nBKl.1 (by decide) 0 (.slice (some ⟨g6, 0, none⟩) lc.length cap6)); have mBKl := ak (blk_put (cs := #[.slice (some ad) lc.length c', .int .i64 (t : Int)]) nBKl.1 0 (.slice (some ⟨g6, 0, none⟩) lc.length cap6) rfl); have HC7 : Aside0 (Chg B W2.heap.size W2 (w66.setCell ⟨bl, 0, none⟩ (.slice (some ⟨g6, 0, none⟩) lc.length cap6))) := ⟨(Chg.of_below HB6.1 (Nat.le_trans hBr HI2.1.2.2.2)).trans (Chg.cell nBKl.1 HBB.1 0 _)⟩; have mBKj := ak (blk_far (p := ⟨bl, 0, none⟩) (blk_below HI2.1.1.hbj HB6.1) (blk_ne HI2.1.1.hbj HI2.1.1.hbl (by decide)) (.slice (some ⟨g6, 0, none⟩) lc.length cap6)); have mBK4 := ak (blk_far (p := ⟨bl, 0, none⟩) (blk_below HI2.1.1.hb4 HB6.1) (blk_ne HI2.1.1.hb4 HI2.1.1.hbl (by decide)) (.slice (some ⟨g6, 0, none⟩) lc.length cap6)); generalize w66.setCell ⟨bl, 0, none⟩ (.slice (some ⟨g6, 0, none⟩) lc.length cap6) = w67 at HR7 mBKl HC7 mBKj mBK4 ⊢; clear fl0 cl0; have cl0 := blk_cell mBKl.1 0
      simp at cl0
      obtain ⟨cp, fp⟩ := Kd.R_cell false HR7.1 (x : Int) (Int.natCast_nonneg _) y3; rw [Int.toNat_natCast] at cp fp
      go_wp2
      have hR8 := Kd.R_putn HR7.1 (x : Int) false; rw [Int.toNat_natCast] at hR8; obtain ⟨inner6, ho6⟩ := Kd.R_own HR7.1; obtain ⟨cs6, h6⟩ := own_typed ho6 g6 (by simp [Value.ownBlock]); have hC8 := HC7.1.trans (Chg.cell (m := W2.heap.size) h6 (Nat.le_trans hBr (Nat.le_trans HI2.1.2.2.2 HG6.1)) x (.bool false)); generalize hw68 : w67.setCell ⟨g6, x, none⟩ (.bool false) = w68 at hR8 hC8 ⊢
      have HD4 : w68.heap[wr.heap.size + 3]? = some (.deferred (some [])) := by
       rw [← hs1]; exact hC8.same _ _ (blk_lt HD3.1) HD3.1 rfl
      have G1 : ChI W n₀ lo bj bl g4 t j l.length S J (chs t (j + 1) i l) (x + 1) (pre ++ chs t j (x + 1) lc) (lc.set x false) (some ⟨g6, 0, none⟩) cap6 ((wr.heap.size + 3) :: Ds) w68 := {
       mem := {
        hbj := by rw [← hw68]; exact blk_far (p := ⟨g6, x, none⟩) mBKj.1 (Ne.symm N6j.1) _
        hbl := by rw [← hw68, List.length_set]; exact blk_far (p := ⟨g6, x, none⟩) mBKl.1 (Ne.symm N6l.1) _
        hb4 := by rw [← hw68]; exact blk_far (p := ⟨g6, x, none⟩) mBK4.1 (Ne.symm N64.1) _
        row := (Kd.R_reads' (show Kd.R Kd.bool 4 w68 W2.heap.size (fun _ => True) (.slice (some ⟨g6, 0, none⟩) lc.length cap6) (lc.set x false) from hR8)).2.2
        cap := by rw [List.length_set]; exact (Kd.R_reads' (show Kd.R Kd.bool 4 w68 W2.heap.size (fun _ => True) (.slice (some ⟨g6, 0, none⟩) lc.length cap6) (lc.set x false) from hR8)).2.1
        rowS := fun ad' e => by cases e; exact ⟨.inr ⟨HS.1 g6 (by have := HWS.1; have := HI2.1.2.2.2; have := HG6.1; omega), show g6 ≠ lo by have := HLW.1; have := HI2.1.2.2.2; have := HG6.1; omega⟩, N6l.1⟩ }
       len := by rw [List.length_set]; exact I.len
       le := by have := HX2.1; have := I.len; omega
       all := by rw [HRE.1, List.append_assoc]
       hJ := HJ.1 _ _ _ HI2.1.2.1 (hC8.up (Nat.le_refl _) (Nat.le_trans hWr HI2.1.2.2.2))
       mks := MarksOk.cons (HI2.1.2.2.1.move fun D hD ho => hC8.same _ _ (blk_lt ho) ho rfl) HD4 (by omega) (fun E hE => by have := HDL.1 E hE; omega)
       size := Nat.le_trans hWr (Nat.le_trans HI2.1.2.2.2 hC8.below.size)
       g4 := I.g4 }
      refine ⟨?_, ?_⟩
      ·unfold ChInv
       exact ⟨x + 1, _, _, _, _, _, _, _, _, _, _, _, _, _, _, _, _, _, _, _, _, _, _, _, _, _, _, _, _, _, _, _, _, _, _, _, _, _, _, _, _, _, _, _, _, _, _, _, _, _, _, _, _, _, _, _, _, _, _, _, _, _, _, _, _, _, _, _, _, _, _, _, _, (by rw [z1]; rfl), G1⟩
      ·show l.length - (intOf (.int .i64 (wrap64 ((x : Int) + 1)))).toNat < l.length - (intOf (.int .i64 (x : Int))).toNat
       rw [z1]; simp only [intOf]; have := HX2.1; have := I.len
       omega
  ·have y1 : decide ((x : Int) < (lc.length : Int)) = false := decide_eq_false (by omega); have y2 : decide (x < lc.length) = false := decide_eq_false hx; have HX2 := ak (show x = lc.length by have := INV.1.le; have := INV.1.len; omega); clear hx
   go_wp2
   refine leaves_marks rfl (B := B) (m := W.heap.size) (by have := HBB.1; have := HLL.1; have := HWS.1; omega) Ds wr INV.1.mks (fun W' hc => ⟨⟨_, rfl⟩, .inl ?_⟩); have hall := INV.1.all; rw [show l.length - x = 0 by have := HX2.1; have := INV.1.len; omega, chsGo, List.append_nil] at hall; rw [hall]; exact HJ.1 _ _ _ INV.1.hJ hc
end Go.Proofs.Ytogmjilaiopjmaa.P
end
section
namespace Go.Proofs.Ytogmjilaiopjmaa.P
open Go Go.RowKit Go.Proofs.YtogmjilaiopjmaaW.PrintWords Go.Proofs.YtogmjilaiopjmaaW.PrintLast Go.Proofs.YtogmjilaiopjmaaW.PrintMore
theorem ch0_seq (t : Nat) : ChSeq t 0 := by
 intro n i bj bl bf n₀ B A c l S w hn ht hi hj hl hf hr hc hnB hB hS hSj hSl hrow lo J Jx W hW hlo hloW hJ hJx hY h0; refine (ch0_walk n lo bj bl bf A c t i l W J Jx n₀ B S (blk_below hj hW) (blk_below hl hW) (blk_below hf hW) (Kd.C_below hr hW) hc hn hi ht (Nat.le_trans hB (Nat.le_of_lt (blk_lt (blk_below hl hW)))) hJ ?_ h0).mono ?_
 ·intro v W1 hJ1 hen; exact hY [] (only t i l) [] v W1 rfl hJ1 hen
 ·rintro e W' ⟨he, h | h⟩
  ·exact ⟨he, .inl h⟩
  ·exact ⟨he, .inr ⟨[only t i l], List.prefix_refl _, h⟩⟩
theorem ch_seq (t : Nat) : ∀ j, j ≤ 1000 → ChSeq t j
 | 0, _ => ch0_seq t
 | j + 1, h => chS_walk (by omega) (ch_seq t j (by omega))
end Go.Proofs.Ytogmjilaiopjmaa.P
end
section
namespace Go.Proofs.Ytogmjilaiopjmaa.P
open Go Go.RowKit Go.Proofs.YtogmjilaiopjmaaW.PrintWords Go.Proofs.YtogmjilaiopjmaaW.PrintLast Go.Proofs.YtogmjilaiopjmaaW.PrintMore
attribute [local go_sem] Oper.semAt_some max2_int min2_int max_two min_two
theorem results_int {fn : Func} {p : Tmp} (h : fn.results = #[.cell p 3]) (tmps : Array Value) (w : World) (g : Nat) (v : Int) (hp : tmps.getD p undef = .pointer (some ⟨g, 0, none⟩)) (hg : w.heap[g]? = some (.cells #[.int .i64 v] 3 (0, 0))) :
  (results fn tmps).run Try.prog w = .ok (.int .i64 v) w := by
 have hp' : tmps[p]?.getD undef = .pointer (some ⟨g, 0, none⟩) := by simpa using hp
 have hc := blk_cell hg 0
 simp at hc
 have ha := Try.isAgg3 w
 simp [results, h, hp', asAddr, loadVar, Sem.run_bind, ha, load, go_sem]
 simp [Sem.run, hc]
theorem leaves_marks2 {F : Fence} {n : Nat} {P : Program} {fn : Func} {tmps : Array Value} {R : Ending → World → Prop} {B m : Nat} (hB : B ≤ m) :
  ∀ (Ds : List Nat) (W : World), MarksOk m Ds W → (∀ W', Chg B m W W' → ∃ v, (results fn tmps).run P W' = .ok v W' ∧ R (.returned v) W') → LeavesInM F n P fn tmps R (marks Ds) .returning W
 | [], W, _, h => h W (Chg.refl _ _ _)
 | D :: Ds, W, hm, h => by
  have hD := hm.at_ D (by simp); have hnd := List.nodup_cons.1 hm.nodup; refine ⟨by simp, .inl ⟨D, _, rfl, run_takeDeferred hD.2, ?_⟩⟩; have hc : Chg B m W (W.putObj D (.deferred none)) := Chg.put _ hD.2 (by omega) hD.1; refine leaves_marks2 hB Ds _ ⟨hnd.2, fun E hE => ?_⟩ (fun W' hW' => h W' (hc.trans hW')); have hE' := hm.at_ E (by simp [hE]); exact ⟨hE'.1, (World.putObj_heap_other (fun e => hnd.1 (by rw [← e]; exact hE))).trans hE'.2⟩
def bnd (D : List Bool → Int) (xs : List (List Bool)) : Int := if xs.any (fun c => decide (D c < 0)) then -1 else xs.foldl (fun b c => if b < D c then D c else b) 0
def dAt (row : List Int) (t : Nat) (c : List Bool) : Int := row.getD (rankN c t) 0
set_option maxHeartbeats 4000000 in
set_option maxRecDepth 100000 in
set_option pp.deepTerms true in
set_option pp.maxSteps 10000000 in
theorem bound_walk (g : Nat) (cn gl : Int) (tabs : List (List Int)) (A : Option Addr) (c : Nat) (l : List Bool) (t j : Nat) (row : List Int) (w : World) (hdb : DbC w g cn gl tabs) (hr : Kd.C Kd.bool w A l.length l) (hc : l.length ≤ c) (hl : l.length ≤ 100) (ht : tabs.length ≤ 1000) (hpos : t < l.length) (hj : min (shel l) tabs.length = j + 1) (hrow : rd_L3 tabs (j : Int) = row) (hrb : row.length ≤ 1000000) (hch : ∀ x, x ∈ chs t j 0 l → okL x (t : Int) = true ∧ shel x = j + 1 ∧ x.length ≤ 1000 ∧ rankN x t < row.length) :
  Calls Try.prog 37 #[.pointer (some ⟨g, 0, none⟩), .agg #[.slice A l.length c, .int .i64 (t : Int)]] w fun e w' => e = .returned (.int .i64 (bnd (dAt row t) (chs t j 0 l))) ∧ Below w.heap.size w w' := by
 have hu27 := Try.underlying27; have HDB := ak hdb; obtain ⟨AT, cT, hg, hcT, hT⟩ := hdb; have HB := ak (Below.refl w.heap.size w); have BKg := ak hg; have HR := ak hr; have HC := ak hc; have HRL := ak (show ∀ ad, A = some ad → ad.block < w.heap.size from fun ad e => by subst e; exact C_lt hr (by omega)); have HSH := ak (shelves_f l (t : Int) (by omega)); have HCH := ak hch; have HRW := ak hrow; have HRB := ak hrb; have HLL := ak hl; have HPO := ak hpos; have HTL := ak ht; have HJT := ak (show j < tabs.length by omega)
 have hsl : shel l ≤ 100 := by have := List.count_le_length (a := true) (l := l); unfold shel; omega
 have hm1 : (if (tabs.length : Int) < (shel l : Int) then (tabs.length : Int) else (shel l : Int)) = (j : Int) + 1 := by split <;> omega
 have hm2 : (if tabs.length < shel l then (tabs.length : Int) else (shel l : Int)) = (j : Int) + 1 := by split <;> omega
 have s1 : IntKind.i64.wrap ((j : Int) + 1 - 1) = (j : Int) := by rw [show ((j : Int) + 1 - 1) = (j : Int) by omega]; exact IntWalk.i64_in _ (by omega)
 have s2 : IntKind.i64.wrap (j : Int) = (j : Int) := IntWalk.i64_in _ (by omega); have HJ1 := ak (show j ≤ 1000 by omega); clear hg hT hr hc hcT hl hrow hrb hch hpos ht hj hsl; refine callsIn_wide (n := 9).1 ?_; refine callsIn_of_wp_marks Try.func37 rfl trivial ?_ rfl; simp only [Try.ntmps37, List.size_toArray, List.length_cons, List.length_nil, Nat.reduceAdd, Nat.reduceSub, Array.replicate_succ, Array.replicate_zero, List.push_toArray, List.append_toArray, List.nil_append, List.cons_append]; refine wpIn_wide.2 ?_
 go_upto_region 1 with (first | ((with_reducible refine gate_dst (N := 2) rfl ?_); refine box_event ?hg (N := 2) ?hd (cs := #[.pointer (some ⟨g, 0, none⟩)]) (t := 57) ?hr ?_; (case hd => rfl); (case hg => rfl); (case hr => first | (go_simp; done) | (go_simp; rfl)); intro g2 hg w2 hbox hb; have GE2 := ak (show w.heap.size ≤ g2 by have := HB.1.size; omega); have n_BKg := ak (blk_below BKg.1 hb); have n_HB := ak (below_step HB.1 hb); clear BKg; clear HB; have BKg := n_BKg; have HB := n_HB; clear n_BKg n_HB; have BK2 := ak hbox; clear hbox hb hg) | ((with_reducible refine gate_dst (N := 3) rfl ?_); refine box_event ?hg (N := 3) ?hd (cs := #[.slice A l.length c, .int .i64 (t : Int)]) (t := 27) ?hr ?_; (case hd => rfl); (case hg => rfl); (case hr => first | (go_simp; done) | (go_simp; rfl)); intro g3 hg w3 hbox hb; have GE3 := ak (show w.heap.size ≤ g3 by have := HB.1.size; omega); have NE3_2 := ak (show g3 ≠ g2 by have := blk_lt BK2.1; omega); have n_BKg := ak (blk_below BKg.1 hb); have n_BK2 := ak (blk_below BK2.1 hb); have n_HB := ak (below_step HB.1 hb); clear BKg; clear BK2; clear HB; have BKg := n_BKg; have BK2 := n_BK2; have HB := n_HB; clear n_BKg n_BK2 n_HB; have BK3 := ak hbox; clear hbox hb hg) | ((with_reducible refine gate_dst (N := 4) rfl ?_); refine box_event ?hg (N := 4) ?hd (cs := #[.int .i64 0]) (t := 3) ?hr ?_; (case hd => rfl); (case hg => rfl); (case hr => first | (go_simp; done) | (go_simp; rfl)); intro g4 hg w4 hbox hb; have GE4 := ak (show w.heap.size ≤ g4 by have := HB.1.size; omega); have NE4_2 := ak (show g4 ≠ g2 by have := blk_lt BK2.1; omega); have NE4_3 := ak (show g4 ≠ g3 by have := blk_lt BK3.1; omega); have n_BKg := ak (blk_below BKg.1 hb); have n_BK2 := ak (blk_below BK2.1 hb); have n_BK3 := ak (blk_below BK3.1 hb); have n_HB := ak (below_step HB.1 hb); clear BKg; clear BK2; clear BK3; clear HB; have BKg := n_BKg; have BK2 := n_BK2; have BK3 := n_BK3; have HB := n_HB; clear n_BKg n_BK2 n_BK3 n_HB; have BK4 := ak hbox; clear hbox hb hg))
 have cg2 := blk_cell BKg.1 2; have e2 := blk_cell BK2.1 0; have e30 := blk_cell BK3.1 0; have e31 := blk_cell BK3.1 1; (try simp at cg2 e2 e30 e31)
 go_region_held3 (fun w' => w'.cell? ⟨g, 2, none⟩ = some (.slice AT tabs.length cT) ∧ w'.cell? ⟨g2, 0, none⟩ = some (.pointer (some ⟨g, 0, none⟩)) ∧ w'.cell? ⟨g3, 0, none⟩ = some (.slice A l.length c) ∧ w'.cell? ⟨g3, 1, none⟩ = some (.int .i64 (t : Int))) (first | exact ⟨cg2, e2, e30, e31⟩ | exact ⟨n0.1, n1.1, n2.1, n3.1⟩) ((go_at_call 32; refine (layout_Shelves.calls _ _ _ l (t : Int) _ _ (Kd.C_below HR.1 ?_) HC.1 HSH.1).mono ?_; (exact below_drew1 HB.1); rintro e w32 ⟨rfl, hb0⟩; have hb := Below.trans (below_drew1 (Below.refl w4.heap.size w4)) hb0; have nHB := ak (below_step HB.1 hb); have nBKg := ak (blk_below BKg.1 hb); have nBK2 := ak (blk_below BK2.1 hb); have nBK3 := ak (blk_below BK3.1 hb); have nBK4 := ak (blk_below BK4.1 hb); have n0 := ak ((blk_cell nBKg.1 2).trans rfl); have n1 := ak ((blk_cell nBK2.1 0).trans rfl); have n2 := ak ((blk_cell nBK3.1 0).trans rfl); have n3 := ak ((blk_cell nBK3.1 1).trans rfl); clear hb hb0))
 go_upto_region 3 with (fail)
 have mBKg := ak (blk_alloc nBKg.1 (.cells #[.int .i64 0] 3)); have mBK2 := ak (blk_alloc nBK2.1 (.cells #[.int .i64 0] 3)); have mBK3 := ak (blk_alloc nBK3.1 (.cells #[.int .i64 0] 3)); have mBK4 := ak (blk_alloc nBK4.1 (.cells #[.int .i64 0] 3)); have mBK6 := ak (blk_new w32 (.cells #[.int .i64 0] 3)); have mHB := ak (below_alloc nHB.1 (.cells #[.int .i64 0] 3)); have HG6 := ak (show w.heap.size ≤ w32.heap.size from nHB.1.size); have NE62 := ak (show w32.heap.size ≠ g2 from Ne.symm (Nat.ne_of_lt (blk_lt nBK2.1))); have NE63 := ak (show w32.heap.size ≠ g3 from Ne.symm (Nat.ne_of_lt (blk_lt nBK3.1))); have NE64 := ak (show w32.heap.size ≠ g4 from Ne.symm (Nat.ne_of_lt (blk_lt nBK4.1))); clear nBKg nBK2 nBK3 nBK4 nHB n0 n1 n2 n3 BKg BK2 BK3 BK4 HB cg2 e2 e30 e31; generalize w32.alloc (.cells #[.int .i64 0] 3) = W0 at mBKg mBK2 mBK3 mBK4 mBK6 mHB ⊢; generalize w32.heap.size = g6 at mBK6 HG6 NE62 NE63 NE64 ⊢; have e30 := blk_cell mBK3.1 0; have e31 := blk_cell mBK3.1 1; (try simp at e30 e31); clear hm1 hm2 s1 s2
 go_wp2_with (go_at_call 72; refine (choices_calls _ _ _ _ _ _ _).mono ?_; rintro e w72 ⟨rfl, rfl⟩)
 obtain ⟨hs1, hw1b, hb0, hb1, hb2⟩ := chWorld_at W0 A l.length c (t : Int) 0 (j : Int); obtain ⟨w1, hw1⟩ : ∃ w1, chWorld W0 A l.length c (t : Int) 0 (j : Int) = w1 := ⟨_, rfl⟩; rw [hw1] at hs1 hw1b hb0 hb1 hb2 ⊢; clear hw1; have h2lt := blk_lt mBK2.1; have h4lt := blk_lt mBK4.1; have h6lt := blk_lt mBK6.1; have hsz0 := mHB.1.size
 have hIab : Ab W0.heap.size w1.heap.size (fun (pre : List (List Bool)) W2 => (W2.heap[g2]? = some (.cells #[.pointer (some ⟨g, 0, none⟩)] 57 (0, 0)) ∧ W2.heap[g4]? = some (.cells #[.int .i64 0] 3 (0, 0)) ∧ W2.heap[g6]? = some (.cells #[.int .i64 (pre.foldl (fun b c => if b < dAt row t c then dAt row t c else b) 0)] 3 (0, 0))) ∧ Below w.heap.size w W2 ∧ (∀ x, x ∈ pre → 0 ≤ dAt row t x) ∧ W0.heap.size ≤ W2.heap.size) := fun s W1 W2 hs hc =>
  ⟨⟨(hc.below.block _ h2lt).trans hs.1.1, (hc.below.block _ h4lt).trans hs.1.2.1, (hc.below.block _ h6lt).trans hs.1.2.2⟩, hs.2.1.trans (hc.below.mono hsz0), hs.2.2.1, Nat.le_trans hs.2.2.2 hc.below.size⟩
 refine wpIn_wide (n := 9).1 ?_
 refine wpIn_rangeC (α := List Bool) (n := 9) rfl (by omega) (gf := 90) (lb := #[.pointer (some ⟨W0.heap.size + 1 + 1, 0, none⟩), .pointer (some ⟨W0.heap.size, 0, none⟩), .pointer (some ⟨W0.heap.size + 1, 0, none⟩)]) rfl trivial (enters_of Try.func90 (by kernel_rfl) rfl) (En := En t) (n₀ := w.heap.size) (B := W0.heap.size) (S := fun k => W0.heap.size ≤ k) (xs := chs t j 0 l)
  (ch_seq t j HJ1.1 (9 - 1) 0 (W0.heap.size + 1 + 1) W0.heap.size (W0.heap.size + 1) w.heap.size W0.heap.size A c l (fun k => W0.heap.size ≤ k) w1 (by have := HLL.1; omega) HPO.1 (by omega) hb2 hb0 hb1 (Kd.C_below HR.1 (below_step mHB.1 hw1b)) HC.1 hsz0 (Nat.le_refl _)
   (fun k hk => by omega) (by omega) (by omega) (fun a e => ⟨.inl (HRL.1 a e), by have := HRL.1 a e; omega⟩))
  hsz0 (fun k hk => by omega) (by omega) (fun x v W2 hen => by obtain ⟨_, _, rfl, _⟩ := hen; rfl)
  _ (fun cd pre W2 => cd = .ret ∧ W2.heap[g4]? = some (.cells #[.int .i64 (-1)] 3 (0, 0)) ∧ Below w.heap.size w W2 ∧ ∃ x, x ∈ pre ∧ dAt row t x < 0)
  hIab
  (fun cd s W1 W2 hs hc => ⟨hs.1, (hc.below.block _ h4lt).trans hs.2.1, hs.2.2.1.trans (hc.below.mono hsz0), hs.2.2.2⟩)
  ⟨⟨(hw1b.block _ h2lt).trans mBK2.1, (hw1b.block _ h4lt).trans mBK4.1, (hw1b.block _ h6lt).trans mBK6.1⟩, below_step mHB.1 hw1b, (fun x hx => by cases hx), hw1b.size⟩
  (fun x2 a' W2 => ∃ (A2 : Option Addr) (c2 gx : Nat), a' = { tmps := #[(.pointer (some ⟨g, 0, none⟩)), (.agg #[.slice A l.length c, .int .i64 (t : Int)]), .pointer (some ⟨g2, 0, none⟩), .pointer (some ⟨g3, 0, none⟩), .pointer (some ⟨g4, 0, none⟩), .int .i64 (j : Int), .pointer (some ⟨g6, 0, none⟩), .pointer (some ⟨gx, 0, none⟩), undef, undef, .agg #[.slice A l.length c, .int .i64 (t : Int)], .int .i64 (shel l : Int), .pointer (some ⟨g, 0, none⟩), .pointer (some ⟨g, 0, none⟩), .pointer (some ⟨g, 2, none⟩), .slice AT tabs.length cT, .int .i64 (tabs.length : Int), .int .i64 ((j : Int) + 1), .int .i64 (j : Int), .agg #[.slice A l.length c, .int .i64 (t : Int)], .int .i64 (j : Int), .func (.func 90) #[] #[.pointer (some ⟨W0.heap.size + 1 + 1, 0, none⟩), .pointer (some ⟨W0.heap.size, 0, none⟩), .pointer (some ⟨W0.heap.size + 1, 0, none⟩)], .agg #[.slice A2 x2.length c2, .int .i64 (t : Int)], undef, undef, undef, undef, undef, undef, undef, undef, undef, undef, undef, undef], defers := [] } ∧ W2.heap[gx]? = some (.cells #[.slice A2 x2.length c2, .int .i64 (t : Int)] 27 (0, 0)) ∧ Kd.C Kd.bool W2 A2 x2.length x2 ∧ x2.length ≤ c2)
  (fun x2 a' W2 r o' hax hl => by
   obtain ⟨A2, c2, gx, e, hgx, hC, hle⟩ := hax; refine ⟨A2, c2, gx, e, (World.putObj_heap_other (fun e => ?_)).trans hgx, C_put hC hl rfl o', hle⟩; rw [e, hl] at hgx
   cases hgx)
  ?assign ?body ?done ?stop
 case assign =>
  intro pre2 x2 v W2 K hi hen hlt hK; obtain ⟨A2, c2, rfl, hC, hle⟩ := hen
  gi_wp2
  exact hK _ _ (Ka.alloc W2 _ (Nat.le_trans hsz0 hi.2.2.2)) (hIab _ _ _ hi (Chg.alloc W2 _ hi.2.2.2)) ⟨A2, c2, W2.heap.size, rfl, blk_new _ _, Kd.C_below hC ((Below.refl _ _).alloc (Nat.le_refl _) _), hle⟩
 case body =>
  intro pre2 x2 post a' W2 hxs hlt hi hax; obtain ⟨A2, c2, gx, rfl, hgx, hC, hle⟩ := hax; obtain ⟨⟨h2, h4, h6⟩, hb, hp, hsz⟩ := hi; have hx2 := HCH.1 x2 (by rw [hxs]; simp); have hD := dist_yes g cn gl tabs A2 c2 x2 t j W2 (HDB.1.below hb) hC hle hx2.2.1 hx2.2.2.1 HTL.1 HJT.1 hx2.1 row HRW.1 hx2.2.2.2 HRB.1; have hdv : row.getD (rankN x2 t) 0 = dAt row t x2 := rfl; rw [hdv] at hD; obtain ⟨acc, hacc⟩ : ∃ acc, acc = pre2.foldl (fun b c => if b < dAt row t c then dAt row t c else b) 0 := ⟨_, rfl⟩; rw [← hacc] at h6; have c20 := blk_cell h2 0; have c60 := blk_cell h6 0; have f60 := blk_frozen h6 0; have c40 := blk_cell h4 0; have f40 := blk_frozen h4 0; have cg0 := blk_cell hgx 0; have cg1 := blk_cell hgx 1
  simp at c20 c60 c40 cg0 cg1
  have HACC := ak hacc; have HP := ak hp; have HBB := ak hb; have HD := ak hD; have K4 := ak h4; have K2 := ak h2; have K6 := ak h6; obtain ⟨dv, hdv2⟩ : ∃ dv, dv = dAt row t x2 := ⟨_, rfl⟩; rw [← hdv2] at HD; have HDV := ak hdv2; have HSZ := ak hsz; have HW1 := ak hw1b; have HHS := ak hs1; clear hx2 hdv hdv2 hD hacc hp hb h2 h4 h6 hgx hC hle hxs hIab hb0 hb1 hb2
  have hka : ∀ (W3 : World) (gz : Nat) (v : Value), w.heap.size ≤ gz → gz < W0.heap.size → Below W2.heap.size W2 W3 → Ka w.heap.size (fun k => W0.heap.size ≤ k) W2 (W3.setCell ⟨gz, 0, none⟩ v) := fun W3 gz v h1 h2 h3 =>
   ⟨(h3.mono (Nat.le_trans hsz0 hsz)).setCell (p := ⟨gz, 0, none⟩) h1 v, fun k o hk ho => (Below.heap_setCell W3 ⟨gz, 0, none⟩ v k (show k ≠ gz by omega)).trans (blk_below ho h3)⟩
  have HKA := ak hka; clear hka hsz
  by_cases hn : dv < 0
  ·have y1 : decide (dv < 0) = true := decide_eq_true hn; have HNG := ak hn; clear hn
   gi_wp2_with (refine ⟨trivial, ?_⟩; gi_at_call 40; refine (CallsIn.inRound _ (callsIn_wide.2 HD.1)).mono ?_; rintro e W3 ⟨rfl, hb3⟩; have HB3 := ak hb3; have K43 := ak (blk_below K4.1 hb3); clear c20 c60 f60 c40 f40 cg0 cg1 hb3; have c40 := blk_cell K43.1 0; have f40 := blk_frozen K43.1 0; simp at c40)
   exact ⟨HKA.1 _ _ _ (Nat.le_trans GE4.1 (Nat.le_refl _)) h4lt HB3.1, rfl, blk_put (cs := #[.int .i64 0]) K43.1 0 _ rfl, (HBB.1.trans (HB3.1.mono (Nat.le_trans hsz0 HSZ.1))).setCell (p := ⟨g4, 0, none⟩) GE4.1 _, x2, by simp, by rw [← HDV.1]; exact HNG.1⟩
  ·have y1 : decide (dv < 0) = false := decide_eq_false hn; have HNG := ak hn; clear hn
   by_cases hm : acc < dv
   ·have HM := ak hm
    gi_wp2_with (refine ⟨trivial, ?_⟩; gi_at_call 40; refine (CallsIn.inRound _ (callsIn_wide.2 HD.1)).mono ?_; rintro e W3 ⟨rfl, hb3⟩; have HB3 := ak hb3; have K63 := ak (blk_below K6.1 hb3); clear c20 c60 f60 c40 f40 cg0 cg1 hb3; have c60 := blk_cell K63.1 0; have f60 := blk_frozen K63.1 0; simp at c60)
    have N64 := NE64.1; have N62 := NE62.1; refine ⟨HKA.1 _ _ _ HG6.1 h6lt HB3.1, ⟨blk_far (p := ⟨g6, 0, none⟩) (blk_below K2.1 HB3.1) (Ne.symm N62) _, blk_far (p := ⟨g6, 0, none⟩) (blk_below K4.1 HB3.1) (Ne.symm N64) _, ?_⟩, (HBB.1.trans (HB3.1.mono (Nat.le_trans hsz0 HSZ.1))).setCell (p := ⟨g6, 0, none⟩) HG6.1 _, ?_, ?_⟩
    ·have h := blk_put (cs := #[.int .i64 acc]) K63.1 0 (.int .i64 dv) rfl; rw [List.foldl_append, ← HACC.1]; simp only [List.foldl_cons, List.foldl_nil]; rw [← HDV.1, if_pos HM.1]; exact h
    ·intro x hx
     rcases List.mem_append.1 hx with hx | hx
     ·exact HP.1 x hx
     ·rw [List.mem_singleton.1 hx, ← HDV.1]; have := HNG.1
      omega
    ·rw [World.size_setCell]; exact Nat.le_trans HSZ.1 HB3.1.size
   ·have HM := ak hm
    gi_wp2_with (refine ⟨trivial, ?_⟩; gi_at_call 40; refine (CallsIn.inRound _ (callsIn_wide.2 HD.1)).mono ?_; rintro e W3 ⟨rfl, hb3⟩; have HB3 := ak hb3; have K63 := ak (blk_below K6.1 hb3); clear c20 c60 f60 c40 f40 cg0 cg1 hb3; have c60 := blk_cell K63.1 0; have f60 := blk_frozen K63.1 0; simp at c60)
    have N64 := NE64.1; have N62 := NE62.1; refine ⟨HKA.1 _ _ _ HG6.1 h6lt HB3.1, ⟨blk_far (p := ⟨g6, 0, none⟩) (blk_below K2.1 HB3.1) (Ne.symm N62) _, blk_far (p := ⟨g6, 0, none⟩) (blk_below K4.1 HB3.1) (Ne.symm N64) _, ?_⟩, (HBB.1.trans (HB3.1.mono (Nat.le_trans hsz0 HSZ.1))).setCell (p := ⟨g6, 0, none⟩) HG6.1 _, ?_, ?_⟩
    ·have h := blk_put (cs := #[.int .i64 acc]) K63.1 0 (.int .i64 acc) rfl; rw [List.foldl_append, ← HACC.1]; simp only [List.foldl_cons, List.foldl_nil]; rw [← HDV.1, if_neg (Int.not_lt.2 HM.1)]; exact h
    ·intro x hx
     rcases List.mem_append.1 hx with hx | hx
     ·exact HP.1 x hx
     ·rw [List.mem_singleton.1 hx, ← HDV.1]; have := HNG.1
      omega
    ·rw [World.size_setCell]; exact Nat.le_trans HSZ.1 HB3.1.size
 case done =>
  intro W2 hi hD; obtain ⟨⟨h2, h4, h6⟩, hb, hp, hsz⟩ := hi; obtain ⟨acc, hacc⟩ : ∃ acc, acc = (chs t j 0 l).foldl (fun b c => if b < dAt row t c then dAt row t c else b) 0 := ⟨_, rfl⟩; rw [← hacc] at h6; have c60 := blk_cell h6 0; have c40 := blk_cell h4 0; have f40 := blk_frozen h4 0
  simp at c60 c40
  have HACC := ak hacc; have HP := ak hp; have HBB := ak hb; have K4 := ak h4; have HD3 := ak hD; have HSZ := ak hsz; have HHS := ak hs1; clear hacc hp hb h2 h4 h6 hIab hb0 hb1 hb2 hD hsz
  gi_wp2
  go_wp2
  have K42 := blk_put (cs := #[.int .i64 0]) K4.1 0 (.int .i64 acc) rfl; have hD2 : (W2.setCell ⟨g4, 0, none⟩ (.int .i64 acc)).heap[w1.heap.size]? = some (.deferred (some [])) := (Below.heap_setCell W2 ⟨g4, 0, none⟩ (.int .i64 acc) w1.heap.size (show w1.heap.size ≠ g4 by omega)).trans HD3.1
  have hbnd : bnd (dAt row t) (chs t j 0 l) = acc := by
   unfold bnd
   rw [if_neg, HACC.1]; intro h; obtain ⟨x, h1, h2⟩ := List.any_eq_true.1 h; have := HP.1 x h1; have := of_decide_eq_true h2
   omega
  refine leaves_marks2 (B := w1.heap.size) (m := w1.heap.size) (Nat.le_refl _) [w1.heap.size] _ ⟨by simp, fun D hD => by rw [List.mem_singleton.1 hD]; exact ⟨Nat.le_refl _, hD2⟩⟩ (fun W' hc => ⟨_, results_int rfl _ _ g4 acc rfl ((hc.below.block _ (by omega)).trans K42), by rw [hbnd], ?_⟩); exact ((HBB.1.setCell (p := ⟨g4, 0, none⟩) GE4.1 _)).trans (hc.below.mono (by omega))
 case stop =>
  intro cd pre2 W2 hpre hx hD; obtain ⟨rfl, h4, hb, x, hxm, hxn⟩ := hx; have HPR := ak hpre; have K4 := ak h4; have HBB := ak hb; have HXN := ak hxn; have HXM := ak hxm; have HD3 := ak hD; have HHS := ak hs1; clear hpre h4 hb hxm hxn hIab hb0 hb1 hb2 hD
  gi_wp2
  have hbnd : bnd (dAt row t) (chs t j 0 l) = -1 := by
   unfold bnd
   rw [if_pos]; obtain ⟨q, hq⟩ := HPR.1; exact List.any_eq_true.2 ⟨x, by rw [← hq]; exact List.mem_append_left _ HXM.1, decide_eq_true HXN.1⟩
  refine leaves_marks2 (B := w1.heap.size) (m := w1.heap.size) (Nat.le_refl _) [w1.heap.size] _ ⟨by simp, fun D hD => by rw [List.mem_singleton.1 hD]; exact ⟨Nat.le_refl _, HD3.1⟩⟩ (fun W' hc => ⟨_, results_int rfl _ _ g4 (-1) rfl ((hc.below.block _ (by omega)).trans K4.1), by rw [hbnd], ?_⟩); exact HBB.1.trans (hc.below.mono (by omega))
end Go.Proofs.Ytogmjilaiopjmaa.P
end
section
namespace Go.Proofs.Ytogmjilaiopjmaa.P
def Leq (a b : Int) : Prop := 0 ≤ b → 0 ≤ a ∧ a ≤ b
theorem Leq.trans {a b c : Int} (h : Leq a b) (k : Leq b c) : Leq a c := fun hc => by
 obtain ⟨h1, h2⟩ := k hc; obtain ⟨h3, h4⟩ := h h1; exact ⟨h3, by omega⟩
section
variable {W H D : Int} {K O r : List Int} {n g : Nat}
structure Shift (W H D : Int) (K O r : List Int) (n : Nat) (l : List Bool) (i j : Nat) : Prop where
 hi : i < n
 hj : j < n
 h1 : l.getD i false = true
 h2 : l.getD j false = false
 way : gets W H D K O (r.getD i 0) (r.getD j 0) = true
theorem tab_zero {k : Nat} {out : List Int} {l : List Bool} {t : Nat} (ok : TableOk W H D K O r n k (g : Int) out) (hl : l.length = n) (hs : shel l = k) (ht : l.getD t false = true) : dAt out t l = 0 ↔ t = g := by
 have L : Lay n k l t (rankN l t) := ⟨hl, by rw [← hl]; exact getB_lt ht, ht, hs, rfl⟩; have := ok.zero _ L.x_lt
 unfold dAt
 rw [this, L.unr.2]
 omega
theorem edge_of {k : Nat} {l : List Bool} {t i j : Nat} (hl : l.length = n) (hs : shel l = k) (ht : l.getD t false = true) (sh : Shift W H D K O r n l i j) :
  Edge W H D K O r n k (rankN l t) (rankN (moveL l i j) (moveT t i j)) := by
 have L : Lay n k l t (rankN l t) := ⟨hl, by rw [← hl]; exact getB_lt ht, ht, hs, rfl⟩; obtain ⟨u1, u2⟩ := L.unr; exact ⟨i, j, sh.hi, sh.hj, by rw [u1]; exact sh.h1, by rw [u1]; exact sh.h2, sh.way, by rw [u1, u2]⟩
theorem move_lay {l : List Bool} {t i j : Nat} (hl : l.length = n) (ht : l.getD t false = true) (sh : Shift W H D K O r n l i j) : (moveL l i j).length = n ∧ shel (moveL l i j) = shel l ∧ (moveL l i j).getD (moveT t i j) false = true :=
 ⟨by rw [moveL_len]; exact hl, shel_move (by rw [hl]; exact sh.hi) (by rw [hl]; exact sh.hj) sh.h1 sh.h2, (moveT_right (by rw [hl]; exact sh.hi) (by rw [hl]; exact sh.hj) (getB_lt ht) ht).2⟩
theorem tab_shift {k : Nat} {out : List Int} {l : List Bool} {t i j : Nat} (ok : TableOk W H D K O r n k (g : Int) out) (hl : l.length = n) (hs : shel l = k) (ht : l.getD t false = true) (sh : Shift W H D K O r n l i j) (h0 : 0 ≤ dAt out (moveT t i j) (moveL l i j)) :
  0 ≤ dAt out t l ∧ dAt out t l ≤ dAt out (moveT t i j) (moveL l i j) + 1 := by
 have L : Lay n k l t (rankN l t) := ⟨hl, by rw [← hl]; exact getB_lt ht, ht, hs, rfl⟩; obtain ⟨m1, m2, m3⟩ := move_lay hl ht sh; have L2 : Lay n k (moveL l i j) (moveT t i j) (rankN (moveL l i j) (moveT t i j)) := ⟨m1, by rw [← m1]; exact getB_lt m3, m3, by rw [m2, hs], rfl⟩; exact ok.closed _ _ L2.x_lt L.x_lt (edge_of hl hs ht sh) h0
theorem tab_next {k : Nat} {out : List Int} {l : List Bool} {t : Nat} (ok : TableOk W H D K O r n k (g : Int) out) (hl : l.length = n) (hs : shel l = k) (ht : l.getD t false = true) (h0 : 0 < dAt out t l) :
  ∃ i j, Shift W H D K O r n l i j ∧ dAt out (moveT t i j) (moveL l i j) = dAt out t l - 1 := by
 have L : Lay n k l t (rankN l t) := ⟨hl, by rw [← hl]; exact getB_lt ht, ht, hs, rfl⟩; obtain ⟨z, hz, ⟨i, j, h1, h2, h3, h4, h5, h6⟩, h7⟩ := ok.next _ L.x_lt h0; obtain ⟨u1, u2⟩ := L.unr; rw [u1] at h3 h4 h6; rw [u2] at h6; exact ⟨i, j, ⟨h1, h2, h3, h4, h5⟩, by unfold dAt; rw [h6]; exact h7⟩
theorem choice_move {c l : List Bool} {t i j : Nat} (hs : Sub c l) (sh : Shift W H D K O r n l i j) (hl : l.length = n) (ht : c.getD t false = true) :
  (c.getD i false = true → Shift W H D K O r n c i j ∧ Sub (moveL c i j) (moveL l i j)) ∧ (c.getD i false = false → Sub c (moveL l i j) ∧ moveT t i j = t) := by
 have hlc : c.length = n := by rw [hs.len]; exact hl
 have hcj : c.getD j false = false := by
  cases h : c.getD j false with
  | false => rfl
  | true => have := hs.le j h; rw [sh.h2] at this; cases this
 refine ⟨fun h => ⟨⟨sh.hi, sh.hj, h, hcj, sh.way⟩, by rw [moveL_len, moveL_len]; exact hs.len, fun x hx => ?_⟩, fun h => ⟨⟨by rw [moveL_len]; exact hs.len, fun x hx => ?_⟩, ?_⟩⟩
 ·rw [moveL_get (by rw [hlc]; exact sh.hi) (by rw [hlc]; exact sh.hj)] at hx; rw [moveL_get (by rw [hl]; exact sh.hi) (by rw [hl]; exact sh.hj)]
  split
  ·rfl
  ·rename_i q
   rw [if_neg q] at hx
   split
   ·rename_i q2; rw [if_pos q2] at hx; exact hx
   ·rename_i q2; rw [if_neg q2] at hx; exact hs.le x hx
 ·rw [moveL_get (by rw [hl]; exact sh.hi) (by rw [hl]; exact sh.hj)]
  split
  ·rfl
  ·split
   ·rename_i q; rw [q, h] at hx; cases hx
   ·exact hs.le x hx
 ·unfold moveT
  rw [if_neg]; rintro rfl; rw [ht] at h; cases h
theorem restrict {k1 k2 : Nat} {o1 o2 : List Int} (ok1 : TableOk W H D K O r n k1 (g : Int) o1) (ok2 : TableOk W H D K O r n k2 (g : Int) o2) : ∀ (d : Nat) (c l : List Bool) (t : Nat), Sub c l → l.length = n → shel c = k1 → shel l = k2 → c.getD t false = true → dAt o2 t l = (d : Int) → 0 ≤ dAt o1 t c ∧ dAt o1 t c ≤ (d : Int)
 | 0, c, l, t, hs, hl, h1, h2, ht, hd => by
  have := (tab_zero ok2 hl h2 (hs.le t ht)).1 hd; have := (tab_zero ok1 (by rw [hs.len]; exact hl) h1 ht).2 this
  omega
 | d + 1, c, l, t, hs, hl, h1, h2, ht, hd => by
  have hlc : c.length = n := by rw [hs.len]; exact hl
  obtain ⟨i, j, sh, hn⟩ := tab_next ok2 hl h2 (hs.le t ht) (by omega); obtain ⟨m1, m2, m3⟩ := move_lay hl (hs.le t ht) sh; obtain ⟨a, b⟩ := choice_move hs sh hl ht
  cases hc : c.getD i false with
  | true =>
   obtain ⟨shc, hsub⟩ := a hc; obtain ⟨q1, q2, q3⟩ := move_lay hlc ht shc; obtain ⟨e1, e2⟩ := restrict ok1 ok2 d (moveL c i j) (moveL l i j) (moveT t i j) hsub m1 (by rw [q2, h1]) (by rw [m2, h2]) q3 (by omega); obtain ⟨f1, f2⟩ := tab_shift ok1 hlc h1 ht shc e1
   omega
  | false =>
   obtain ⟨hsub, hmt⟩ := b hc; obtain ⟨e1, e2⟩ := restrict ok1 ok2 d c (moveL l i j) t hsub m1 h1 (by rw [m2, h2]) ht (by rw [hmt] at hn; omega)
   omega
theorem restrict_leq {k1 k2 : Nat} {o1 o2 : List Int} (ok1 : TableOk W H D K O r n k1 (g : Int) o1) (ok2 : TableOk W H D K O r n k2 (g : Int) o2) {c l : List Bool} {t : Nat} (hs : Sub c l) (hl : l.length = n) (h1 : shel c = k1) (h2 : shel l = k2) (ht : c.getD t false = true) : Leq (dAt o1 t c) (dAt o2 t l) := fun h => by
 obtain ⟨d, hd⟩ : ∃ d : Nat, dAt o2 t l = (d : Int) := ⟨(dAt o2 t l).toNat, by omega⟩; have := restrict ok1 ok2 d c l t hs hl h1 h2 ht hd
 omega
end
theorem fold_le (D : List Bool → Int) : ∀ (xs : List (List Bool)) (b : Int), b ≤ xs.foldl (fun b c => if b < D c then D c else b) b ∧ (∀ c, c ∈ xs → D c ≤ xs.foldl (fun b c => if b < D c then D c else b) b) ∧ (xs.foldl (fun b c => if b < D c then D c else b) b = b ∨ ∃ c, c ∈ xs ∧ xs.foldl (fun b c => if b < D c then D c else b) b = D c)
 | [], b => ⟨Int.le_refl _, (fun c h => by cases h), .inl rfl⟩
 | x :: xs, b => by
  obtain ⟨h1, h2, h3⟩ := fold_le D xs (if b < D x then D x else b); simp only [List.foldl_cons]; refine ⟨?_, fun c hc => ?_, ?_⟩
  ·by_cases q : b < D x
   ·rw [if_pos q] at h1 ⊢; omega
   ·rw [if_neg q] at h1 ⊢; omega
  ·rcases List.mem_cons.1 hc with rfl | hc
   ·by_cases q : b < D c
    ·rw [if_pos q] at h1 ⊢; omega
    ·rw [if_neg q] at h1 ⊢; omega
   ·exact h2 c hc
  ·rcases h3 with h3 | ⟨c, hc, h3⟩
   ·by_cases q : b < D x
    ·rw [if_pos q] at h3 ⊢; exact .inr ⟨x, by simp, h3⟩
    ·rw [if_neg q] at h3 ⊢; exact .inl h3
   ·exact .inr ⟨c, by simp [hc], h3⟩
theorem bnd_neg {D : List Bool → Int} {xs : List (List Bool)} : bnd D xs = -1 ↔ ∃ c, c ∈ xs ∧ D c < 0 := by
 unfold bnd
 constructor
 ·intro h
  split at h
  ·rename_i q
   obtain ⟨c, h1, h2⟩ := List.any_eq_true.1 q; exact ⟨c, h1, of_decide_eq_true h2⟩
  ·have := (fold_le D xs 0).1
   omega
 ·rintro ⟨c, h1, h2⟩; rw [if_pos (List.any_eq_true.2 ⟨c, h1, decide_eq_true h2⟩)]
theorem bnd_nonneg {D : List Bool → Int} {xs : List (List Bool)} (h : ¬ bnd D xs = -1) : 0 ≤ bnd D xs ∧ (∀ c, c ∈ xs → 0 ≤ D c ∧ D c ≤ bnd D xs) ∧ (bnd D xs = 0 ∨ ∃ c, c ∈ xs ∧ bnd D xs = D c) := by
 have hn : ∀ c, c ∈ xs → 0 ≤ D c := fun c hc => by
  rcases (by omega : D c < 0 ∨ 0 ≤ D c) with q | q
  ·exact absurd (bnd_neg.2 ⟨c, hc, q⟩) h
  ·exact q
 have e : bnd D xs = xs.foldl (fun b c => if b < D c then D c else b) 0 := by
  unfold bnd
  rw [if_neg]; intro q; obtain ⟨c, h1, h2⟩ := List.any_eq_true.1 q; have := hn c h1; have := of_decide_eq_true h2
  omega
 obtain ⟨h1, h2, h3⟩ := fold_le D xs 0; rw [e]; exact ⟨h1, fun c hc => ⟨hn c hc, h2 c hc⟩, h3⟩
theorem bnd_lo {D : List Bool → Int} {xs : List (List Bool)} : -1 ≤ bnd D xs := by
 by_cases h : bnd D xs = -1
 ·omega
 ·have := (bnd_nonneg h).1; omega
theorem bnd_leq {D : List Bool → Int} {xs : List (List Bool)} {v : Int} (h : ∀ c, c ∈ xs → Leq (D c) v) : Leq (bnd D xs) v := fun hv => by
 have hn : ¬ bnd D xs = -1 := fun e => by
  obtain ⟨c, h1, h2⟩ := bnd_neg.1 e; have := (h c h1 hv).1
  omega
 obtain ⟨h1, h2, h3⟩ := bnd_nonneg hn; refine ⟨h1, ?_⟩
 rcases h3 with h3 | ⟨c, hc, h3⟩
 ·omega
 ·rw [h3]; exact (h c hc hv).2
theorem leq_bnd {D : List Bool → Int} {xs : List (List Bool)} {c : List Bool} (hc : c ∈ xs) : Leq (D c) (bnd D xs) := fun hv => (bnd_nonneg (by omega)).2.1 c hc
end Go.Proofs.Ytogmjilaiopjmaa.P
end
section
namespace Go.Proofs.Ytogmjilaiopjmaa.P
open Go Go.RowKit Go.Proofs.YtogmjilaiopjmaaW.PrintWords Go.Proofs.YtogmjilaiopjmaaW.PrintLast Go.Proofs.YtogmjilaiopjmaaW.PrintMore
theorem cnt_small : ∀ n, n ≤ 10 → ∀ j, j ≤ 3 → cntN n (j + 1) ≤ 20000 := by decide +kernel
structure Tabs (W H D : Int) (K O r : List Int) (k g : Nat) (tabs : List (List Int)) : Prop where
 len : tabs.length = k + 1
 tab : ∀ j, j ≤ k → ptab W H D K O r (j + 1) g = some (tabs.getD j [])
 ok : ∀ j, j ≤ k → TableOk W H D K O r r.length (j + 1) (g : Int) (tabs.getD j [])
theorem tabs_ex {W H D : Int} {K O r : List Int} {k g : Nat} (hf : FloorOk W H D K O) (hs : r.Pairwise (· < ·)) (hk : k < r.length) (hg : g < r.length) (hn : r.length ≤ 24) (hc : ∀ j, j ≤ k → cntN r.length (j + 1) ≤ 20000) : ∃ tabs, Tabs W H D K O r k g tabs := by
 have h : ∀ j, j ≤ k → (∃ out, ptab W H D K O r (j + 1) g = some out ∧ TableOk W H D K O r r.length (j + 1) (g : Int) out) := fun j hj => ptab_ok hf hs (by omega) (by omega) hg hn (by have := hc j hj; omega)
 have e : ∀ j, j ≤ k → ((List.range (k + 1)).map fun j => (ptab W H D K O r (j + 1) g).getD []).getD j [] = (ptab W H D K O r (j + 1) g).getD [] := fun j hj => by
  rw [List.getD_eq_getElem?_getD, List.getElem?_map, List.getElem?_range (by omega)]; rfl
 refine ⟨(List.range (k + 1)).map fun j => (ptab W H D K O r (j + 1) g).getD [], ⟨by simp, fun j hj => ?_, fun j hj => ?_⟩⟩
 ·obtain ⟨out, h1, h2⟩ := h j hj; rw [e j hj, h1]; rfl
 ·obtain ⟨out, h1, h2⟩ := h j hj; rw [e j hj, h1]; exact h2
def bj (m : Nat) (l : List Bool) : Nat := min (shel l) m - 1
def bv (tabs : List (List Int)) (t : Nat) (l : List Bool) : Int := bnd (dAt (tabs.getD (bj tabs.length l) []) t) (chs t (bj tabs.length l) 0 l)
theorem shel_pos1 {l : List Bool} {t : Nat} (h : l.getD t false = true) : 1 ≤ shel l := by
 have h1 : (true : Bool) ∈ l := by
  have hl := getB_lt h; rw [List.getD_eq_getElem?_getD, List.getElem?_eq_getElem hl] at h; exact h ▸ List.getElem_mem hl
 exact List.count_pos_iff.2 h1
section
variable {W H D : Int} {K O r : List Int} {k g : Nat} {tabs : List (List Int)}
theorem Tabs.hk (h : Tabs W H D K O r k g tabs) : tabs.length = k + 1 := h.len
theorem bj_le (h : Tabs W H D K O r k g tabs) (l : List Bool) : bj tabs.length l ≤ k := by have := h.len; unfold bj; omega
theorem bj_sh (h : Tabs W H D K O r k g tabs) {l : List Bool} {t : Nat} (ht : l.getD t false = true) : bj tabs.length l + 1 ≤ shel l ∧ min (shel l) tabs.length = bj tabs.length l + 1 := by have := h.len; have := shel_pos1 ht; unfold bj; omega
theorem tab_row (h : Tabs W H D K O r k g tabs) {j : Nat} (hj : j ≤ k) {c : List Bool} {t : Nat} (hl : c.length = r.length) (hs : shel c = j + 1) (ht : c.getD t false = true) : rankN c t < (tabs.getD j []).length := by
 rw [(h.ok j hj).len, ← hl, ← hs]; exact rank_lt (getB_lt ht) ht
end
theorem bound_ok {W H D : Int} {K O r : List Int} {k gl : Nat} {tabs : List (List Int)} (h : Tabs W H D K O r k gl tabs) (hn : r.length ≤ 24) (g : Nat) (cn gg : Int) (A : Option Addr) (c : Nat) (l : List Bool) (t : Nat) (w : World) (hdb : DbC w g cn gg tabs) (hr : Kd.C Kd.bool w A l.length l) (hc : l.length ≤ c) (hl : l.length = r.length) (ht : l.getD t false = true) (hcm : ∀ j, j ≤ k → cntN r.length (j + 1) ≤ 20000) (hk : k ≤ 100) :
  Calls Try.prog 37 #[.pointer (some ⟨g, 0, none⟩), .agg #[.slice A l.length c, .int .i64 (t : Int)]] w fun e w' => e = .returned (.int .i64 (bv tabs t l)) ∧ Below w.heap.size w w' := by
 have htl := getB_lt ht; obtain ⟨b1, b2⟩ := bj_sh h ht; have b3 := bj_le h l
 exact bound_walk g cn gg tabs A c l t (bj tabs.length l) (tabs.getD (bj tabs.length l) []) w hdb hr hc (by omega) (by have := h.len; omega) htl b2 (by unfold rd_L3; rw [Int.toNat_natCast]) (by rw [(h.ok _ b3).len]; have := hcm _ b3; omega) (fun x hx => by
  have q := (mem_chs htl ht).1 hx; have hxl := q.sub.len.trans hl; have hx1 := getB_lt q.tgt
  exact ⟨okL_iff.2 ⟨by omega, by omega, by omega, by omega, by rw [Int.toNat_natCast]; exact q.tgt⟩, q.cnt, by omega, tab_row h b3 hxl q.cnt q.tgt⟩)
end Go.Proofs.Ytogmjilaiopjmaa.P
end
section
namespace Go.Proofs.Ytogmjilaiopjmaa.P
section
variable {W H D : Int} {K O r : List Int} {k g : Nat} {tabs : List (List Int)}
theorem bv_lo (tabs : List (List Int)) (t : Nat) (l : List Bool) : -1 ≤ bv tabs t l := bnd_lo
theorem bv_more {k2 : Nat} {tabs2 : List (List Int)} (h : Tabs W H D K O r k g tabs) (h2 : Tabs W H D K O r k2 g tabs2) {c l : List Bool} {t : Nat} (hs : Sub c l) (hl : l.length = r.length) (ht : c.getD t false = true) (hk : k ≤ k2) : Leq (bv tabs t c) (bv tabs2 t l) := by
 have htl := getB_lt ht; have htL := hs.le t ht; have htlL := getB_lt htL; have b3 := bj_le h c; have b4 := bj_le h2 l; have hss := hs.shel; obtain ⟨b1, _⟩ := bj_sh h2 htL
 have e : bj tabs.length c ≤ bj tabs2.length l := by have := h.len; have := h2.len; unfold bj; omega
 refine bnd_leq fun x hx => ?_; have m := (mem_chs htl ht).1 hx; obtain ⟨x', s1, m'⟩ := Ch.more (m := bj tabs2.length l) (show Ch t (bj tabs.length c) l x from ⟨m.sub.trans hs, m.tgt, m.cnt⟩) b1 e; have hx' := (mem_chs htlL htL).2 m'; have hl' : x'.length = r.length := m'.sub.len.trans hl; exact (restrict_leq (h.ok _ b3) (h2.ok _ b4) s1 hl' m.cnt m'.cnt m.tgt).trans (leq_bnd hx')
end
end Go.Proofs.Ytogmjilaiopjmaa.P
end
section
namespace Go.Proofs.Ytogmjilaiopjmaa.P
open Go Go.RowKit Go.Proofs.YtogmjilaiopjmaaW.PrintWords Go.Proofs.YtogmjilaiopjmaaW.PrintLast Go.Proofs.YtogmjilaiopjmaaW.PrintMore
theorem sub_set {cur l : List Bool} {i : Nat} {b : Bool} (h : Sub cur l) (hb : b = true → l.getD i false = true) : Sub (cur.set i b) l := by
 refine ⟨by rw [List.length_set]; exact h.len, fun x hx => ?_⟩
 by_cases e : i = x
 ·subst e
  by_cases hl : i < cur.length
  ·rw [List.getD_eq_getElem?_getD, List.getElem?_set_self hl] at hx; exact hb hx
  ·rw [List.set_eq_of_length_le (by omega)] at hx; exact h.le _ hx
 ·rw [List.getD_eq_getElem?_getD, List.getElem?_set_ne e, ← List.getD_eq_getElem?_getD] at hx; exact h.le x hx
theorem get_set_ne {cur : List Bool} {i x : Nat} {b : Bool} (h : i ≠ x) : (cur.set i b).getD x false = cur.getD x false := by
 rw [List.getD_eq_getElem?_getD, List.getElem?_set_ne h, ← List.getD_eq_getElem?_getD]
theorem choice_l0 (l : List Bool) (t : Nat) (bits : Int) (hl : l.length ≤ 1000000) (htl : l.getD t false = true) : ∀ (d k i : Nat) (cur : List Bool), i + d = l.length → d < k → Sub cur l → (t < i → cur.getD t false = true) → ∃ c, taquinref27_Choice.l0 k bits (i : Int) l (t : Int) cur (t : Int) = some (c, (t : Int)) ∧ Sub c l ∧ c.getD t false = true
 | d, 0, i, cur, h, h', _, _ => by omega
 | d, k + 1, i, cur, h, h', hs, ht => by
  have htlt := getB_lt htl; simp only [taquinref27_Choice.l0]
  by_cases hi : i < l.length
  ·have hc : i < cur.length := by rw [hs.len]; exact hi
   have w1 : wrap64 ((i : Int) + 1) = ((i + 1 : Nat) : Int) := by rw [wrap_id (by omega) (by omega)]; omega
   obtain ⟨d', rfl⟩ : ∃ d', d = d' + 1 := ⟨d - 1, by omega⟩; rw [if_pos (by omega), w1, Int.toNat_natCast]
   by_cases e : i = t
   ·subst e; rw [if_pos rfl, if_pos (by omega), if_pos (by omega)]
    exact choice_l0 l i bits hl htl d' k (i + 1) _ (by omega) (by omega) (sub_set hs fun _ => htl) (fun _ => by
     rw [List.getD_eq_getElem?_getD, List.getElem?_set_self hc]; rfl)
   ·rw [if_neg (by omega), if_pos (by omega)]
    have go : ∀ b : Bool, (b = true → l.getD i false = true) → ∃ c, taquinref27_Choice.l0 k bits ((i + 1 : Nat) : Int) l (t : Int) (cur.set i b) (t : Int) = some (c, (t : Int)) ∧ Sub c l ∧ c.getD t false = true := fun b hb =>
     choice_l0 l t bits hl htl d' k (i + 1) _ (by omega) (by omega) (sub_set hs hb) (fun hti => by
      rw [get_set_ne e]; exact ht (by omega))
    by_cases q : rdOf false l (i : Int) = true
    ·rw [if_pos q, if_pos (by omega)]
     exact go _ fun _ => by unfold rdOf at q; simpa using q
    ·rw [if_neg q, if_pos (by omega)]; exact go false (by simp)
  ·rw [if_neg (by omega)]; exact ⟨cur, rfl, hs, ht (by omega)⟩
theorem choice_f (l : List Bool) (t : Nat) (bits : Int) (hl : l.length ≤ 1000000) (htl : l.getD t false = true) : ∃ c, taquinref27_Choice.f (l.length + 1) l (t : Int) bits = some (c, (t : Int)) ∧ Sub c l ∧ c.getD t false = true := by
 unfold taquinref27_Choice.f
 rw [if_pos (by omega), if_pos (by omega)]; refine choice_l0 l t bits hl htl l.length (l.length + 1) 0 _ (by omega) (by omega) ⟨by simp, fun x hx => ?_⟩ (by omega); rw [List.getD_eq_getElem?_getD, List.getElem?_replicate] at hx
 split at hx <;> simp at hx
end Go.Proofs.Ytogmjilaiopjmaa.P
end
section
namespace Go.Proofs.Ytogmjilaiopjmaa.P
open Go.RowKit Go.Proofs.YtogmjilaiopjmaaW.PrintWords Go.Proofs.YtogmjilaiopjmaaW.PrintLast Go.Proofs.YtogmjilaiopjmaaW.PrintMore
theorem cell_allocB {w : World} {a : Addr} {v : Value} (h : w.cell? a = some v) (o : Obj) : (w.alloc o).cell? a = some v := (World.cell?_of_block (Below.heap_alloc w o _ (World.block_lt_of_cell? w a h))).trans h
theorem info22 : (Try.prog.info? 22).map (fun i => (i.zero, i.size, i.bytes)) = some (some (.slice none 0 0), 1, 24) := by kernel_rfl
def tooMany (n j : Nat) : Prop := 24 < n ∨ (20000 : Int) < cnt (n : Int) ((j : Int) + 1)
set_option maxHeartbeats 4000000 in
set_option maxRecDepth 100000 in
theorem build_limit (a0_0 : Int) (a0_1 : Int) (a0_2 : Int) (A0_3 : Option Addr) (c0_3 : Nat) (l0_3 : List Int) (A0_4 : Option Addr) (c0_4 : Nat) (l0_4 : List Int) (A1 : Option Addr) (c1 : Nat) (l1 : List Int) (k g j0 : Nat) (w : World) (hg : g < l1.length) (hk : k < l1.length) (hn : l1.length ≤ 1000000) (hj0 : j0 ≤ k) (h : tooMany l1.length j0) :
  Calls Try.prog 36 #[.agg #[.int .i64 a0_0, .int .i64 a0_1, .int .i64 a0_2, .slice A0_3 l0_3.length c0_3, .slice A0_4 l0_4.length c0_4], .slice A1 l1.length c1, .int .i64 (k : Int), .int .i64 (g : Int)] w fun e w' => e = .returned (.tuple #[.pointer none, .int .i64 27]) ∧ Below w.heap.size w w' := by
 have HB := ak (Below.refl w.heap.size w); have HH := ak h; have HJ0 := ak hj0; have z1 : decide ((g : Int) < 0) = false := decide_eq_false (by omega); have z2 : decide ((g : Int) ≥ (l1.length : Int)) = false := decide_eq_false (by omega); have z3 : decide (l1.length ≤ g) = false := decide_eq_false (by omega); have z4 : decide ((k : Int) < 0) = false := decide_eq_false (by omega); have z5 : decide ((k : Int) ≥ (l1.length : Int)) = false := decide_eq_false (by omega); have z6 : decide (l1.length ≤ k) = false := decide_eq_false (by omega); obtain ⟨k1, hk1⟩ : ∃ k1, k1 = k + 1 := ⟨_, rfl⟩
 have z7 : IntKind.i64.wrap ((k : Int) + 1) = (k1 : Int) := by rw [show ((k : Int) + 1) = (k1 : Int) by omega]; exact IntWalk.i64_in _ (by omega)
 have HK1 := ak hk1; clear hk1; have HN := ak hn; have HK := ak hk; clear h hj0 hn hk hg
 go_enter Try.func36, Try.ntmps36
 go_upto_block 0 with (((with_reducible refine gate_dst (N := 4) rfl ?_); refine box_event ?hg (N := 4) ?hd (cs := #[.int .i64 a0_0, .int .i64 a0_1, .int .i64 a0_2, .slice A0_3 l0_3.length c0_3, .slice A0_4 l0_4.length c0_4]) (t := 24) ?hr ?_; (case hd => rfl); (case hg => rfl); (case hr => first | (go_simp; done) | (go_simp; rfl)); intro g4 hg w4 hbox hb; have GE4 := ak (show w.heap.size ≤ g4 by have := HB.1.size; omega); have n_HB := ak (below_step HB.1 hb); clear HB; have HB := n_HB; clear n_HB; have BK4 := ak hbox; clear hbox hb hg))
 clear BK4 z1 z2 z3 z4 z5 z6 z7
 go_wp2
 go_loopg [34] (k + 1) (fun kq v34 w' => ∃ (j : Nat), v34 = .int .i64 (j : Int) ∧ Aside0 (kq + j = k + 1) ∧ Aside0 (j ≤ j0) ∧ Aside0 (Below w.heap.size w w'))
 case atStart => exact ⟨0, rfl, ⟨by omega⟩, ⟨by omega⟩, HB⟩
 case round =>
  clear HB; obtain ⟨j, rfl, HJ, HJL, HB⟩ := hrel; have y1 : decide ((j : Int) < (k1 : Int)) = true := decide_eq_true (by have := HJL.1; have := HJ0.1; have := HK1.1; omega); have y2 : decide (j < k1) = true := decide_eq_true (by have := HJL.1; have := HJ0.1; have := HK1.1; omega); have y3 : IntKind.i64.wrap ((j : Int) + 1) = (j : Int) + 1 := IntWalk.i64_in _ (by have := HJL.1; have := HJ0.1; have := HK.1; have := HN.1; omega)
  by_cases h24 : 24 < l1.length
  ·have x1 : decide ((l1.length : Int) > 24) = true := decide_eq_true (by omega); have x2 : decide (24 < l1.length) = true := decide_eq_true h24; clear h24
   go_wp2
   go_ret2
   exact ⟨rfl, HB.1⟩
  ·have x1 : decide ((l1.length : Int) > 24) = false := decide_eq_false (by omega); have x2 : decide (24 < l1.length) = false := decide_eq_false h24; have H24 := ak h24; clear h24; obtain ⟨cc, hcc⟩ : ∃ cc, cc = cnt (l1.length : Int) ((j : Int) + 1) := ⟨_, rfl⟩; have HCC := ak hcc; clear hcc
   by_cases hbig : 20000 < cc
   ·have x3 : decide (cc > 20000) = true := decide_eq_true hbig; have x4 : decide (20000 < cc) = true := decide_eq_true hbig; clear hbig
    go_wp2_with (go_at_call 27; refine (layout_Count.calls _ _ _ _ rfl).mono ?_; rintro e w27 ⟨rfl, hb⟩; rw [← HCC.1]; have n_HB := ak (below_step HB.1 hb); clear HB; have HB := n_HB; clear n_HB; clear hb)
    go_ret2
    exact ⟨rfl, HB.1⟩
   ·have x3 : decide (cc > 20000) = false := decide_eq_false hbig; have x4 : decide (20000 < cc) = false := decide_eq_false hbig; have HBIG := ak hbig; clear hbig
    go_wp2_with (go_at_call 27; refine (layout_Count.calls _ _ _ _ rfl).mono ?_; rintro e w27 ⟨rfl, hb⟩; rw [← HCC.1]; have n_HB := ak (below_step HB.1 hb); clear HB; have HB := n_HB; clear n_HB; clear hb)
    go_roundg (gk - 1)
    case measure => have := HJ.1; have := HJL.1; have := HJ0.1; omega
    case rel => exact ⟨j + 1, by first | rfl | simp, ⟨by have := HJ.1; have := HJL.1; have := HJ0.1; omega⟩, ⟨by
     have h1 := HH.1; have h2 := HJL.1
     rcases Nat.lt_or_ge j j0 with q | q
     ·exact q
     ·exfalso
      obtain rfl : j = j0 := by omega
      rcases h1 with h1 | h1
      ·exact absurd h1 (by have := H24.1; omega)
      ·rw [← HCC.1] at h1; exact absurd h1 (by have := HBIG.1; omega)⟩, HB⟩
set_option maxHeartbeats 4000000 in
set_option maxRecDepth 100000 in
theorem build_ok (a0_0 : Int) (a0_1 : Int) (a0_2 : Int) (A0_3 : Option Addr) (c0_3 : Nat) (l0_3 : List Int) (A0_4 : Option Addr) (c0_4 : Nat) (l0_4 : List Int) (A1 : Option Addr) (c1 : Nat) (l1 : List Int) (k g : Nat) (tabs : List (List Int)) (w : World) (hr0_3 : Kd.C (Kd.int .i64) w A0_3 l0_3.length l0_3) (hc0_3 : l0_3.length ≤ c0_3) (hr0_4 : Kd.C (Kd.int .i64) w A0_4 l0_4.length l0_4) (hc0_4 : l0_4.length ≤ c0_4) (hr1 : Kd.C (Kd.int .i64) w A1 l1.length l1) (hc1 : l1.length ≤ c1) (hg : g < l1.length) (hk : k < l1.length) (hn : l1.length ≤ 24) (hcm : ∀ j, j ≤ k → cntN l1.length (j + 1) ≤ 20000) (htl : tabs.length = k + 1) (htb : ∀ j, j ≤ k → ptab a0_0 a0_1 a0_2 l0_3 l0_4 l1 (j + 1) g = some (tabs.getD j [])) :
  Calls Try.prog 36 #[.agg #[.int .i64 a0_0, .int .i64 a0_1, .int .i64 a0_2, .slice A0_3 l0_3.length c0_3, .slice A0_4 l0_4.length c0_4], .slice A1 l1.length c1, .int .i64 (k : Int), .int .i64 (g : Int)] w fun e w' => ∃ gd : Nat, e = .returned (.tuple #[.pointer (some ⟨gd, 0, none⟩), .int .i64 0]) ∧ w.heap.size ≤ gd ∧ DbC w' gd (l1.length : Int) (g : Int) tabs ∧ Below w.heap.size w w' := by
 have hu24 := Try.underlying24; have HB := ak (Below.refl w.heap.size w); have HR3 := ak hr0_3; have HC3 := ak hc0_3; have HR4 := ak hr0_4; have HC4 := ak hc0_4; have HR1 := ak hr1; have HC1 := ak hc1; have z1 : decide ((g : Int) < 0) = false := decide_eq_false (by omega); have z2 : decide ((g : Int) ≥ (l1.length : Int)) = false := decide_eq_false (by omega); have z3 : decide (l1.length ≤ g) = false := decide_eq_false (by omega); have z4 : decide ((k : Int) < 0) = false := decide_eq_false (by omega); have z5 : decide ((k : Int) ≥ (l1.length : Int)) = false := decide_eq_false (by omega); have z6 : decide (l1.length ≤ k) = false := decide_eq_false (by omega); obtain ⟨k1, hk1⟩ : ∃ k1, k1 = k + 1 := ⟨_, rfl⟩
 have z7 : IntKind.i64.wrap ((k : Int) + 1) = (k1 : Int) := by rw [show ((k : Int) + 1) = (k1 : Int) by omega]; exact IntWalk.i64_in _ (by omega)
 have HK1 := ak hk1; clear hk1; have HN24 := ak hn; have HK := ak hk; have HG := ak hg; have HCMs := ak hcm; have HTL := ak htl; have HTB := ak htb; have x1 : decide ((l1.length : Int) > 24) = false := decide_eq_false (by omega); have x2 : decide (24 < l1.length) = false := decide_eq_false (by omega); clear hr0_3 hc0_3 hr0_4 hc0_4 hr1 hc1 hn hk hg hcm htl htb
 go_enter Try.func36, Try.ntmps36
 go_upto_block 0 with (((with_reducible refine gate_dst (N := 4) rfl ?_); refine box_event ?hg (N := 4) ?hd (cs := #[.int .i64 a0_0, .int .i64 a0_1, .int .i64 a0_2, .slice A0_3 l0_3.length c0_3, .slice A0_4 l0_4.length c0_4]) (t := 24) ?hr ?_; (case hd => rfl); (case hg => rfl); (case hr => first | (go_simp; done) | (go_simp; rfl)); intro g4 hg w4 hbox hb; have GE4 := ak (show w.heap.size ≤ g4 by have := HB.1.size; omega); have n_HB := ak (below_step HB.1 hb); clear HB; have HB := n_HB; clear n_HB; have BK4 := ak hbox; clear hbox hb hg))
 go_wp2
 go_loopg [34] (k + 1) (fun kq v34 w' => ∃ (j : Nat), v34 = .int .i64 (j : Int) ∧ Aside0 (kq + j = k + 1) ∧ Aside0 (w'.heap[g4]? = some (.cells #[.int .i64 a0_0, .int .i64 a0_1, .int .i64 a0_2, .slice A0_3 l0_3.length c0_3, .slice A0_4 l0_4.length c0_4] 24 (0, 0))) ∧ Aside0 (Below w.heap.size w w'))
 case atStart => exact ⟨0, rfl, ⟨by omega⟩, BK4, HB⟩
 case round =>
  clear HB BK4; obtain ⟨i, rfl, HJ, BK4, HB⟩ := hrel
  by_cases hj : i < k1
  ·have y1 : decide ((i : Int) < (k1 : Int)) = true := decide_eq_true (by omega); have y2 : decide (i < k1) = true := decide_eq_true hj; have y3 : IntKind.i64.wrap ((i : Int) + 1) = (i : Int) + 1 := IntWalk.i64_in _ (by have := HK1.1; have := HK.1; have := HN24.1; omega)
   have HCC := ak (show cnt (l1.length : Int) ((i : Int) + 1) = (cntN l1.length (i + 1) : Int) by
    have := HK1.1; have := HK.1; have := HN24.1
    unfold cnt cntN
    rw [if_neg (by omega), if_neg (by omega), if_neg (by omega), if_neg (by omega), show ((l1.length : Int) - 1).toNat = l1.length - 1 by omega, show ((i : Int) + 1 - 1).toNat = i + 1 - 1 by omega]
    simp)
   obtain ⟨cc, hcc⟩ : ∃ cc, cc = cntN l1.length (i + 1) := ⟨_, rfl⟩; rw [← hcc] at HCC
   have hcl : cc ≤ 20000 := by rw [hcc]; exact HCMs.1 i (by have := HK1.1; omega)
   have x3 : decide ((cc : Int) > 20000) = false := decide_eq_false (by omega); have x4 : decide (20000 < cc) = false := decide_eq_false (by omega); have HJ1 := ak hj; clear hcc hcl hj
   go_wp2_with (go_at_call 27; refine (layout_Count.calls _ _ _ _ rfl).mono ?_; rintro e w27 ⟨rfl, hb⟩; rw [HCC.1]; have n_BK4 := ak (blk_below BK4.1 hb); have n_HB := ak (below_step HB.1 hb); clear BK4; clear HB; have BK4 := n_BK4; have HB := n_HB; clear n_BK4 n_HB; clear hb)
   go_roundg (gk - 1)
   case measure => have := HJ.1; have := HJ1.1; have := HK1.1; omega
   case rel => exact ⟨i + 1, by first | rfl | simp, ⟨by have := HJ.1; have := HJ1.1; have := HK1.1; omega⟩, BK4, HB⟩
  ·have y1 : decide ((i : Int) < (k1 : Int)) = false := decide_eq_false (by omega); have y2 : decide (i < k1) = false := decide_eq_false hj; clear hj
   go_upto_region 11 with (((with_reducible refine gate_dst (N := 50) rfl ?_); refine box_event ?hg (N := 50) ?hd (cs := #[.int .i64 (l1.length : Int), .int .i64 (g : Int), .slice none 0 0]) (t := 90) ?hr ?_; (case hd => rfl); (case hg => rfl); (case hr => first | (go_simp; done) | (go_simp; rfl)); intro g50 hg w50 hbox hb; have GE50 := ak (show w.heap.size ≤ g50 by have := HB.1.size; omega); have NE50_4 := ak (show g50 ≠ g4 by have := blk_lt BK4.1; omega); have n_BK4 := ak (blk_below BK4.1 hb); have n_HB := ak (below_step HB.1 hb); clear BK4; clear HB; have BK4 := n_BK4; have HB := n_HB; clear n_BK4 n_HB; have BK50 := ak hbox; clear hbox hb hg))
   have BKd := BK50; have HT := ak (show Kd.R (Kd.slice 3 (Kd.int .i64)) 22 w50 w.heap.size (fun _ => True) (.slice none 0 0) (tabs.take 0) by rw [List.take_zero]; exact Kd.R_nil _ _ _ _ _); clear BK50 HJ y1 y2
   go_wp2
   go_loopg [53] (k + 1) (fun kq v53 w' => ∃ (j : Nat) (tv : Value), v53 = .int .i64 (j : Int) ∧ Aside0 (kq + j = k + 1) ∧ Aside0 (w'.heap[g4]? = some (.cells #[.int .i64 a0_0, .int .i64 a0_1, .int .i64 a0_2, .slice A0_3 l0_3.length c0_3, .slice A0_4 l0_4.length c0_4] 24 (0, 0))) ∧ Aside0 (w'.heap[g50]? = some (.cells #[.int .i64 (l1.length : Int), .int .i64 (g : Int), tv] 90 (0, 0))) ∧ Aside0 (Kd.R (Kd.slice 3 (Kd.int .i64)) 22 w' w.heap.size (fun _ => True) tv (tabs.take j)) ∧ Aside0 (Below w.heap.size w w'))
   case atStart => exact ⟨0, _, rfl, ⟨by omega⟩, BK4, BKd, HT, HB⟩
   case round =>
    clear HB BK4 BKd HT; obtain ⟨j, tv, rfl, HJ, BK4, BKd, HT, HB⟩ := hrel
    by_cases hj : j < k1
    ·have y1 : decide ((j : Int) < (k1 : Int)) = true := decide_eq_true (by omega); have y2 : decide (j < k1) = true := decide_eq_true hj; have y3 : IntKind.i64.wrap ((j : Int) + 1) = (j : Int) + 1 := IntWalk.i64_in _ (by have := HK1.1; have := HK.1; have := HN24.1; omega); obtain ⟨row, hrow⟩ : ∃ row, row = tabs.getD j [] := ⟨_, rfl⟩
     have HROW := ak (show bfsP a0_0 a0_1 a0_2 l0_3 l0_4 l1 l1.length (j + 1) (cntN l1.length (j + 1) + 1) (initP2 l1.length (j + 1) (g : Int) (cntN l1.length (j + 1))).1 (initP2 l1.length (j + 1) (g : Int) (cntN l1.length (j + 1))).2 = some row by
      rw [hrow]; exact HTB.1 j (by have := HK1.1; omega))
     have HCM := ak (show cntN l1.length (j + 1) ≤ 24576 from Nat.le_trans (HCMs.1 j (by have := HK1.1; omega)) (by omega)); have HJK := ak (show j + 1 ≤ l1.length by have := HK1.1; have := HK.1; omega); obtain ⟨tj, htj⟩ : ∃ tj, tj = tabs.take j := ⟨_, rfl⟩; rw [← htj] at HT; have HTJ := ak (show tj.length ≤ 100 by rw [htj, List.length_take]; have := HK1.1; have := HK.1; have := HN24.1; omega)
     have HTS := ak (show tj ++ [row] = tabs.take (j + 1) by
      rw [htj, hrow]
      have hl : j < tabs.length := by have := HTL.1; have := HK1.1; omega
      rw [List.take_succ_eq_append_getElem hl, List.getD_eq_getElem?_getD, List.getElem?_eq_getElem hl]; rfl)
     have HJ1 := ak hj; clear hrow htj hj
     go_upto_region 14 with (fail)
     have e2 := blk_cell BKd.1 2; have e40 := blk_cell BK4.1 0; have e41 := blk_cell BK4.1 1; have e42 := blk_cell BK4.1 2; have e43 := blk_cell BK4.1 3; have e44 := blk_cell BK4.1 4; (try simp at e2 e40 e41 e42 e43 e44)
     go_region_law (first | (refine goes_ (N := some 66) Try.func71 (by kernel_rfl) rfl #[.agg #[.int .i64 a0_0, .int .i64 a0_1, .int .i64 a0_2, .slice A0_3 l0_3.length c0_3, .slice A0_4 l0_4.length c0_4], .slice A1 l1.length c1, .int .i64 ((j : Int) + 1), .int .i64 (g : Int)] rfl rfl rfl (by (try simp only [List.map_toArray, List.map_cons, List.map_nil]); first | done | rfl) ?_; go_loud (refine (ptable_ok a0_0 a0_1 a0_2 A0_3 c0_3 l0_3 A0_4 c0_4 l0_4 A1 c1 l1 (j + 1) g row _ (Kd.C_below HR3.1 ?_) HC3.1 (Kd.C_below HR4.1 ?_) HC4.1 (Kd.C_below HR1.1 ?_) HC1.1 HN24.1 HCM.1 (by omega) HJK.1 HG.1 HROW.1).mono ?_); (exact below_drew1 HB.1); (exact below_drew1 HB.1); (exact below_drew1 HB.1); rintro e w71 ⟨v71, rfl, hR, hb0⟩; obtain ⟨Av, cv, hv⟩ := Kd.R_slice hR; subst hv; have hb := Below.trans (below_drew1 (Below.refl wr.heap.size wr)) hb0; have HRW := ak (Kd.R_lower hR HB.1.size); have nBK4 := ak (blk_below BK4.1 hb); have nBKd := ak (blk_below BKd.1 hb); have nHT := ak (Kd.R_below HT.1 hb); have nHB := ak (below_step HB.1 hb); have n2 : w71.cell? ⟨g50, 2, none⟩ = some tv := (blk_cell nBKd.1 2).trans rfl; have n2a := cell_allocB n2 (.cells #[.slice Av row.length cv] 22 (0, 0)); clear hb hb0 hR; refine ⟨_, rfl, ?_⟩) | ((refine Kd.R_append_step (Kd.slice 3 (Kd.int .i64)) (w0 := w) w.heap.size rfl (.tmp 60) (.tmp 67) 69 22 (.slice none 0 0) 24 rfl Try.underlying69 info22 rfl (by decide) (by omega) tv tj row [.slice Av row.length cv] (fun _ => True) (fun k => True ∧ some k ≠ tv.ownBlock) rfl rfl ⟨_, rfl, Kd.R_apart' HRW.1 (Kd.R_typed nHT.1) (by decide)⟩ (fun k hk => hk) (fun _ _ => trivial) nHT.1 nHB.1 nHB.1.size (by have := HTJ.1; omega) ?_); intro v1 wa ho hb hg hat; obtain ⟨An, cn, hv1⟩ := Kd.R_slice ho; subst hv1; have pBKd := ak (blk_grown nBKd.1 hg (Kd.R_ne nHT.1 nBKd.1 (by decide))); have pBK4 := ak (blk_grown nBK4.1 hg (Kd.R_ne nHT.1 nBK4.1 (by decide))); have p2 : wa.cell? ⟨g50, 2, none⟩ = some tv := (blk_cell pBKd.1 2).trans rfl; have f2 := blk_frozen pBKd.1 2; have HO := ak ho; have HBa := ak hb; clear ho hb hg hat))
     all_goals (go_wp2; go_roundg (gk - 1))
     all_goals try (have := HJ.1; have := HJ1.1; have := HK1.1; omega)
     all_goals exact ⟨j + 1, .slice An (tj.length + 1) cn, by first | rfl | simp, ⟨by have := HJ.1; have := HJ1.1; have := HK1.1; omega⟩, ⟨blk_far (p := ⟨g50, 2, none⟩) pBK4.1 (blk_ne pBK4.1 pBKd.1 (by decide)) _⟩, ⟨blk_put (cs := #[.int .i64 (l1.length : Int), .int .i64 (g : Int), tv]) pBKd.1 2 _ rfl⟩, ⟨by have h := HO.1; rw [List.length_append, List.length_singleton] at h; rw [← HTS.1]; exact Kd.R_set h pBKd.1 (by decide) 2 _⟩, ⟨below_set HBa.1 GE50.1⟩⟩
    ·have y1 : decide ((j : Int) < (k1 : Int)) = false := decide_eq_false (by omega); have y2 : decide (j < k1) = false := decide_eq_false hj; have HJE := ak (show j = k + 1 by have := HJ.1; have := HK1.1; omega); clear hj
     go_wp2
     go_ret2
     obtain ⟨A, c, hv, hle, hC⟩ := Kd.R_reads HT.1; rw [HJE.1, List.take_of_length_le (by have := HTL.1; omega)] at hv hle hC; exact ⟨g50, rfl, GE50.1, ⟨A, c, by rw [← hv]; exact BKd.1, hle, hC⟩, HB.1⟩
end Go.Proofs.Ytogmjilaiopjmaa.P
end
section
namespace Go.Proofs.Ytogmjilaiopjmaa.P
open Go Go.RowKit Go.Proofs.YtogmjilaiopjmaaW.PrintWords Go.Proofs.YtogmjilaiopjmaaW.PrintLast Go.Proofs.YtogmjilaiopjmaaW.PrintMore
theorem ptab34_1 : ptab 4 1 1 [1, 1, 1, 1] [1, 5, 5, 4] [0, 1, 2, 3] 1 3 = some [3, 2, 1, 0] := by decide +kernel
theorem ptab34_2 : ptab 4 1 1 [1, 1, 1, 1] [1, 5, 5, 4] [0, 1, 2, 3] 2 3 = some [-1, -1, -1, 2, -1, -1, 1, 1, -1, 0, 0, 0] := by decide +kernel
def tabsA : List (List Int) := [[3, 2, 1, 0]]
def tabsB : List (List Int) := [[3, 2, 1, 0], [-1, -1, -1, 2, -1, -1, 1, 1, -1, 0, 0, 0]]
theorem sb1 (g : Nat) (cn gl : Int) (A : Option Addr) (c : Nat) (l : List Bool) (h : l = [true, false, false, false]) (w : World) (hdb : DbC w g cn gl tabsA) (hr : Kd.C Kd.bool w A l.length l) (hc : l.length ≤ c) :
  Calls Try.prog 37 #[.pointer (some ⟨g, 0, none⟩), .agg #[.slice A l.length c, .int .i64 0]] w fun e w' => e = .returned (.int .i64 3) ∧ Below w.heap.size w w' := by
 refine (bound_walk g cn gl tabsA A c l 0 0 [3, 2, 1, 0] w hdb hr hc (by subst h; decide) (by decide) (by subst h; decide) (by subst h; decide) (by decide +kernel) (by decide) (by subst h; decide +kernel)).mono ?_; rintro e w' ⟨rfl, hb⟩; refine ⟨?_, hb⟩; subst h; rw [show bnd (dAt [3, 2, 1, 0] 0) (chs 0 0 0 [true, false, false, false]) = 3 by decide +kernel]
theorem sb2 (g : Nat) (cn gl : Int) (A : Option Addr) (c : Nat) (l : List Bool) (h : l = [true, false, true, false]) (w : World) (hdb : DbC w g cn gl tabsA) (hr : Kd.C Kd.bool w A l.length l) (hc : l.length ≤ c) :
  Calls Try.prog 37 #[.pointer (some ⟨g, 0, none⟩), .agg #[.slice A l.length c, .int .i64 0]] w fun e w' => e = .returned (.int .i64 3) ∧ Below w.heap.size w w' := by
 refine (bound_walk g cn gl tabsA A c l 0 0 [3, 2, 1, 0] w hdb hr hc (by subst h; decide) (by decide) (by subst h; decide) (by subst h; decide) (by decide +kernel) (by decide) (by subst h; decide +kernel)).mono ?_; rintro e w' ⟨rfl, hb⟩; refine ⟨?_, hb⟩; subst h; rw [show bnd (dAt [3, 2, 1, 0] 0) (chs 0 0 0 [true, false, true, false]) = 3 by decide +kernel]
theorem sb3 (g : Nat) (cn gl : Int) (A : Option Addr) (c : Nat) (l : List Bool) (h : l = [true, false, true, false]) (w : World) (hdb : DbC w g cn gl tabsB) (hr : Kd.C Kd.bool w A l.length l) (hc : l.length ≤ c) :
  Calls Try.prog 37 #[.pointer (some ⟨g, 0, none⟩), .agg #[.slice A l.length c, .int .i64 0]] w fun e w' => e = .returned (.int .i64 (-1)) ∧ Below w.heap.size w w' := by
 refine (bound_walk g cn gl tabsB A c l 0 1 [-1, -1, -1, 2, -1, -1, 1, 1, -1, 0, 0, 0] w hdb hr hc (by subst h; decide) (by decide) (by subst h; decide) (by subst h; decide) (by decide +kernel) (by decide) (by subst h; decide +kernel)).mono ?_; rintro e w' ⟨rfl, hb⟩; refine ⟨?_, hb⟩; subst h; rw [show bnd (dAt [-1, -1, -1, 2, -1, -1, 1, 1, -1, 0, 0, 0] 0) (chs 0 1 0 [true, false, true, false]) = (-1) by decide +kernel]
theorem sb4 (g : Nat) (cn gl : Int) (A : Option Addr) (c : Nat) (l : List Bool) (h : l = [true, false, true, false]) (w : World) (hdb : DbC w g cn gl tabsB) (hr : Kd.C Kd.bool w A l.length l) (hc : l.length ≤ c) :
  Calls Try.prog 37 #[.pointer (some ⟨g, 0, none⟩), .agg #[.slice A l.length c, .int .i64 2]] w fun e w' => e = .returned (.int .i64 1) ∧ Below w.heap.size w w' := by
 refine (bound_walk g cn gl tabsB A c l 2 1 [-1, -1, -1, 2, -1, -1, 1, 1, -1, 0, 0, 0] w hdb hr hc (by subst h; decide) (by decide) (by subst h; decide) (by subst h; decide) (by decide +kernel) (by decide) (by subst h; decide +kernel)).mono ?_; rintro e w' ⟨rfl, hb⟩; refine ⟨?_, hb⟩; subst h; rw [show bnd (dAt [-1, -1, -1, 2, -1, -1, 1, 1, -1, 0, 0, 0] 2) (chs 2 1 0 [true, false, true, false]) = 1 by decide +kernel]
theorem at_00 (w : World) : Calls Try.prog 69 #[.int .i64 0, .int .i64 0] w fun e w' => ∃ (A : Option Addr) (c : Nat) (l : List Bool), l = [true, false, false, false] ∧ e = .returned (.agg #[.slice A l.length c, .int .i64 0]) ∧ Kd.C Kd.bool w' A l.length l ∧ l.length ≤ c ∧ Below w.heap.size w w' := by
 refine (taquinlaw27_at.calls 0 0 [true, false, false, false] 0 w (by decide +kernel)).mono ?_; rintro e w' ⟨v, rfl, hR, hb⟩; obtain ⟨A, c, rfl, hc, hC⟩ := Kd.R_reads hR; exact ⟨A, c, _, rfl, rfl, hC, hc, hb⟩
theorem at_02 (w : World) : Calls Try.prog 69 #[.int .i64 0, .int .i64 2] w fun e w' => ∃ (A : Option Addr) (c : Nat) (l : List Bool), l = [true, false, true, false] ∧ e = .returned (.agg #[.slice A l.length c, .int .i64 0]) ∧ Kd.C Kd.bool w' A l.length l ∧ l.length ≤ c ∧ Below w.heap.size w w' := by
 refine (taquinlaw27_at.calls 0 2 [true, false, true, false] 0 w (by decide +kernel)).mono ?_; rintro e w' ⟨v, rfl, hR, hb⟩; obtain ⟨A, c, rfl, hc, hC⟩ := Kd.R_reads hR; exact ⟨A, c, _, rfl, rfl, hC, hc, hb⟩
theorem at_20 (w : World) : Calls Try.prog 69 #[.int .i64 2, .int .i64 0] w fun e w' => ∃ (A : Option Addr) (c : Nat) (l : List Bool), l = [true, false, true, false] ∧ e = .returned (.agg #[.slice A l.length c, .int .i64 2]) ∧ Kd.C Kd.bool w' A l.length l ∧ l.length ≤ c ∧ Below w.heap.size w w' := by
 refine (taquinlaw27_at.calls 2 0 [true, false, true, false] 2 w (by decide +kernel)).mono ?_; rintro e w' ⟨v, rfl, hR, hb⟩; obtain ⟨A, c, rfl, hc, hC⟩ := Kd.R_reads hR; exact ⟨A, c, _, rfl, rfl, hC, hc, hb⟩
theorem row_q (w : World) : Calls Try.prog 68 #[] w fun e w' => ∃ (A : Option Addr) (c : Nat) (A' : Option Addr) (c' : Nat) (K O : List Int), K = [1, 1, 1, 1] ∧ O = [1, 5, 5, 4] ∧ e = .returned (.agg #[.int .i64 4, .int .i64 1, .int .i64 1, .slice A K.length c, .slice A' O.length c']) ∧ Kd.C (Kd.int .i64) w' A K.length K ∧ K.length ≤ c ∧ Kd.C (Kd.int .i64) w' A' O.length O ∧ O.length ≤ c' ∧ Below w.heap.size w w' := by
 refine (taquinlaw27_row.calls 4 1 1 [1, 1, 1, 1] [1, 5, 5, 4] w rfl).mono ?_; rintro e w' ⟨v, v', rfl, hR, hR', hb⟩; obtain ⟨A, c, rfl, hc, hC⟩ := Kd.R_reads hR; obtain ⟨A', c', rfl, hc', hC'⟩ := Kd.R_reads hR'; exact ⟨A, c, A', c', _, _, rfl, rfl, rfl, hC, hc, hC', hc', hb⟩
theorem bd_q (k : Nat) (tabs : List (List Int)) (hk : k = 0 ∧ tabs = tabsA ∨ k = 1 ∧ tabs = tabsB) (A : Option Addr) (c : Nat) (A' : Option Addr) (c' : Nat) (K O : List Int) (A1 : Option Addr) (c1 : Nat) (r : List Int) (w : World) (hK : K = [1, 1, 1, 1]) (hO : O = [1, 5, 5, 4]) (hr : r = [0, 1, 2, 3]) (h1 : Kd.C (Kd.int .i64) w A K.length K) (h2 : K.length ≤ c) (h3 : Kd.C (Kd.int .i64) w A' O.length O) (h4 : O.length ≤ c') (h5 : Kd.C (Kd.int .i64) w A1 r.length r) (h6 : r.length ≤ c1) :
  Calls Try.prog 36 #[.agg #[.int .i64 4, .int .i64 1, .int .i64 1, .slice A K.length c, .slice A' O.length c'], .slice A1 r.length c1, .int .i64 (k : Int), .int .i64 3] w fun e w' => ∃ (gd : Nat), e = .returned (.tuple #[.pointer (some ⟨gd, 0, none⟩), .int .i64 0]) ∧ DbC w' gd 4 3 tabs ∧ Below w.heap.size w w' := by
 refine (build_ok 4 1 1 A c K A' c' O A1 c1 r k 3 tabs w h1 h2 h3 h4 h5 h6 (by subst hr; decide) (by subst hr; rcases hk with h | h <;> simp [h.1]) (by subst hr; decide) ?_ ?_ ?_).mono ?_
 ·subst hr
  rcases hk with ⟨rfl, _⟩ | ⟨rfl, _⟩ <;> decide +kernel
 ·rcases hk with ⟨rfl, rfl⟩ | ⟨rfl, rfl⟩ <;> rfl
 ·subst hr hK hO
  rcases hk with ⟨rfl, rfl⟩ | ⟨rfl, rfl⟩
  ·intro j hj
   obtain rfl : j = 0 := by omega
   exact ptab34_1
  ·intro j hj
   rcases (by omega : j = 0 ∨ j = 1) with rfl | rfl
   ·exact ptab34_1
   ·exact ptab34_2
 ·rintro e w' ⟨gd, rfl, _, hdb, hb⟩; subst hr; exact ⟨gd, rfl, hdb, hb⟩
set_option maxHeartbeats 4000000 in
set_option maxRecDepth 100000 in
theorem small_walk (w : World) : Calls Try.prog 34 #[] w fun e w' => e = .returned (.bool true) ∧ Below w.heap.size w w' := by
 have hu24 := Try.underlying24; have hu27 := Try.underlying27; have HB := ak (Below.refl w.heap.size w)
 go_enter Try.func34, Try.ntmps34
 go_upto_region 2 with (first | ((with_reducible refine gate_dst (N := 6) rfl ?_); go_loud (refine Kd.R_lit (Kd.int .i64) _ 3 ?hg (N := 6) ?hd (xs := ([0, 1, 2, 3] : List Int)) (inner := [.int .i64 0, .int .i64 1, .int .i64 2, .int .i64 3]) (ok := fun _ => True) (okp := fun _ => True) ?hr ?hp (fun _ hk => hk) trivial (Below.refl _ _) (Nat.le_refl _) (by simp) ?_); go_loud (case hd => rfl); go_loud (case hg => rfl); go_loud (case hr => first | (go_simp; done) | (go_simp; rfl)); go_loud (case hp => exact (Reps.one (show Kd.M (Kd.int .i64) _ _ _ 0 [.int .i64 0] from rfl) (Reps.one (show Kd.M (Kd.int .i64) _ _ _ 1 [.int .i64 1] from rfl) (Reps.one (show Kd.M (Kd.int .i64) _ _ _ 2 [.int .i64 2] from rfl) (Reps.one (show Kd.M (Kd.int .i64) _ _ _ 3 [.int .i64 3] from rfl) (Reps.none _ _)))))); go_loud (intro v6 w6 ho hb hg_ hnew_); go_loud (clear hg_ hnew_); go_loud (obtain ⟨A1, c1, hv, hcr, hC⟩ := Kd.R_reads ho); go_loud (subst hv); obtain ⟨rl, hrl⟩ : ∃ rl : List Int, rl = [0, 1, 2, 3] := ⟨_, rfl⟩; go_loud (rw [← hrl] at hC hcr ⊢); have HR := ak hC; have HRC := ak hcr; have HRL := ak hrl; go_loud (have nHB := ak (below_step HB.1 hb)); clear HB; have HB := nHB; go_loud (clear nHB ho hb hC hcr hrl)))
 go_upto_region 3 with (first | (go_at_call 68; go_loud (refine (row_q _).mono ?_); rintro e w68 ⟨AK, cK, AO, cO, Kl, Ol, hK, hO, rfl, q1, q2, q3, q4, hb⟩; (try clear QK QO Q1 Q2 Q3 Q4); have QK := ak hK; have QO := ak hO; have Q1 := ak q1; have Q2 := ak q2; have Q3 := ak q3; have Q4 := ak q4; have nHR := ak (Kd.C_below HR.1 hb); have nHB := ak (below_step HB.1 hb); (try (have nHDA := ak (HDA.1.below hb); clear HDA; have HDA := nHDA; clear nHDA)); clear HR HB; have HR := nHR; have HB := nHB; clear nHR nHB hK hO q1 q2 q3 q4 hb) | (go_at_call 36; (refine (bd_q 0 tabsA (by decide) _ _ _ _ _ _ _ _ _ _ QK.1 QO.1 HRL.1 Q1.1 Q2.1 Q3.1 Q4.1 HR.1 HRC.1).mono ?_); rintro e w36 ⟨gdA, rfl, hdb, hb⟩; have HDA := ak hdb; have nHR := ak (Kd.C_below HR.1 hb); have nHB := ak (below_step HB.1 hb); clear HR HB; have HR := nHR; have HB := nHB; clear nHR nHB hdb hb))
 go_upto_region 4 with (first | (go_at_call 68; go_loud (refine (row_q _).mono ?_); rintro e w68 ⟨AK, cK, AO, cO, Kl, Ol, hK, hO, rfl, q1, q2, q3, q4, hb⟩; (try clear QK QO Q1 Q2 Q3 Q4); have QK := ak hK; have QO := ak hO; have Q1 := ak q1; have Q2 := ak q2; have Q3 := ak q3; have Q4 := ak q4; have nHR := ak (Kd.C_below HR.1 hb); have nHB := ak (below_step HB.1 hb); (try (have nHDA := ak (HDA.1.below hb); clear HDA; have HDA := nHDA; clear nHDA)); clear HR HB; have HR := nHR; have HB := nHB; clear nHR nHB hK hO q1 q2 q3 q4 hb) | (go_at_call 36; (refine (bd_q 1 tabsB (by decide) _ _ _ _ _ _ _ _ _ _ QK.1 QO.1 HRL.1 Q1.1 Q2.1 Q3.1 Q4.1 HR.1 HRC.1).mono ?_); rintro e w36 ⟨gdB, rfl, hdb, hb⟩; have nHDA := ak (HDA.1.below hb); clear HDA; have HDA := nHDA; clear nHDA; have HDB := ak hdb; have nHR := ak (Kd.C_below HR.1 hb); have nHB := ak (below_step HB.1 hb); clear HR HB; have HR := nHR; have HB := nHB; clear nHR nHB hdb hb))
 go_upto_region 6 with (fail)
 go_wp2_with (first | (go_at_call 69; (with_reducible refine (at_00 _).mono ?_); rintro e w69 ⟨Al, cl, ll, hl, rfl, q5, q6, hb⟩; (try clear QL Q5 Q6); have QL := ak hl; have Q5 := ak q5; have Q6 := ak q6; have nHDA := ak (HDA.1.below hb); have nHDB := ak (HDB.1.below hb); have nHB := ak (below_step HB.1 hb); clear HDA HDB HB; have HDA := nHDA; have HDB := nHDB; have HB := nHB; clear nHDA nHDB nHB hl q5 q6 hb) | (go_at_call 69; (with_reducible refine (at_02 _).mono ?_); rintro e w69 ⟨Al, cl, ll, hl, rfl, q5, q6, hb⟩; (try clear QL Q5 Q6); have QL := ak hl; have Q5 := ak q5; have Q6 := ak q6; have nHDA := ak (HDA.1.below hb); have nHDB := ak (HDB.1.below hb); have nHB := ak (below_step HB.1 hb); clear HDA HDB HB; have HDA := nHDA; have HDB := nHDB; have HB := nHB; clear nHDA nHDB nHB hl q5 q6 hb) | (go_at_call 69; (with_reducible refine (at_20 _).mono ?_); rintro e w69 ⟨Al, cl, ll, hl, rfl, q5, q6, hb⟩; (try clear QL Q5 Q6); have QL := ak hl; have Q5 := ak q5; have Q6 := ak q6; have nHDA := ak (HDA.1.below hb); have nHDB := ak (HDB.1.below hb); have nHB := ak (below_step HB.1 hb); clear HDA HDB HB; have HDA := nHDA; have HDB := nHDB; have HB := nHB; clear nHDA nHDB nHB hl q5 q6 hb) | (go_at_call 37; (with_reducible refine (sb1 gdA _ _ _ _ _ QL.1 _ HDA.1 Q5.1 Q6.1).mono ?_); rintro e w37 ⟨rfl, hb⟩; have nHDA := ak (HDA.1.below hb); have nHDB := ak (HDB.1.below hb); have nHB := ak (below_step HB.1 hb); clear HDA HDB HB; have HDA := nHDA; have HDB := nHDB; have HB := nHB; clear nHDA nHDB nHB hb) | (go_at_call 37; (with_reducible refine (sb2 gdA _ _ _ _ _ QL.1 _ HDA.1 Q5.1 Q6.1).mono ?_); rintro e w37 ⟨rfl, hb⟩; have nHDA := ak (HDA.1.below hb); have nHDB := ak (HDB.1.below hb); have nHB := ak (below_step HB.1 hb); clear HDA HDB HB; have HDA := nHDA; have HDB := nHDB; have HB := nHB; clear nHDA nHDB nHB hb) | (go_at_call 37; (with_reducible refine (sb3 gdB _ _ _ _ _ QL.1 _ HDB.1 Q5.1 Q6.1).mono ?_); rintro e w37 ⟨rfl, hb⟩; have nHDA := ak (HDA.1.below hb); have nHDB := ak (HDB.1.below hb); have nHB := ak (below_step HB.1 hb); clear HDA HDB HB; have HDA := nHDA; have HDB := nHDB; have HB := nHB; clear nHDA nHDB nHB hb) | (go_at_call 37; (with_reducible refine (sb4 gdB _ _ _ _ _ QL.1 _ HDB.1 Q5.1 Q6.1).mono ?_); rintro e w37 ⟨rfl, hb⟩; have nHDA := ak (HDA.1.below hb); have nHDB := ak (HDB.1.below hb); have nHB := ak (below_step HB.1 hb); clear HDA HDB HB; have HDA := nHDA; have HDB := nHDB; have HB := nHB; clear nHDA nHDB nHB hb))
 go_ret
 exact ⟨rfl, HB.1⟩
set_option maxHeartbeats 4000000 in
set_option maxRecDepth 100000 in
theorem more_out (a0_0 : Int) (a0_1 : Int) (a0_2 : Int) (A0_3 : Option Addr) (c0_3 : Nat) (l0_3 : List Int) (A0_4 : Option Addr) (c0_4 : Nat) (l0_4 : List Int) (A1 : Option Addr) (c1 : Nat) (l1 : List Int) (goal : Int) (A2 : Option Addr) (c2 : Nat) (l2 : List Bool) (t : Int) (bits : Int) (b : Bool) (w : World) (hr3 : Kd.C (Kd.int .i64) w A0_3 l0_3.length l0_3) (hc3 : l0_3.length ≤ c0_3) (hr4 : Kd.C (Kd.int .i64) w A0_4 l0_4.length l0_4) (hc4 : l0_4.length ≤ c0_4) (hr1 : Kd.C (Kd.int .i64) w A1 l1.length l1) (hc1 : l1.length ≤ c1) (hr2 : Kd.C Kd.bool w A2 l2.length l2) (hc2 : l2.length ≤ c2) (hg : taquinlaw27_given.f 5001 a0_0 a0_1 a0_2 l0_3 l0_4 l1 l2 t 9 = some b) (h : b = false ∨ goal < 0 ∨ (l1.length : Int) ≤ goal) :
  Calls Try.prog 8 #[.agg #[.int .i64 a0_0, .int .i64 a0_1, .int .i64 a0_2, .slice A0_3 l0_3.length c0_3, .slice A0_4 l0_4.length c0_4], .slice A1 l1.length c1, .int .i64 goal, .agg #[.slice A2 l2.length c2, .int .i64 t], .int .i64 bits] w fun e w' => e = .returned (.bool true) ∧ Below w.heap.size w w' := by
 have hu24 := Try.underlying24; have hu27 := Try.underlying27; have HB := ak (Below.refl w.heap.size w); have HR3 := ak hr3; have HQ3 := ak hc3; have HR4 := ak hr4; have HQ4 := ak hc4; have HR1 := ak hr1; have HQ1 := ak hc1; have HR2 := ak hr2; have HQ2 := ak hc2; have HG := ak hg; clear hr3 hc3 hr4 hc4 hr1 hc1 hr2 hc2 hg
 cases b
 ·clear h
  go_enter Try.func8, Try.ntmps8
  go_wp2_with (first | ((with_reducible refine gate_dst (N := 5) rfl ?_); refine box_event ?hg (N := 5) ?hd (cs := #[.int .i64 a0_0, .int .i64 a0_1, .int .i64 a0_2, .slice A0_3 l0_3.length c0_3, .slice A0_4 l0_4.length c0_4]) (t := 24) ?hr ?_; (case hd => rfl); (case hg => rfl); (case hr => first | (go_simp; done) | (go_simp; rfl)); intro g5 hg w5 hbox hb; have GE5 := ak (show w.heap.size ≤ g5 by have := HB.1.size; omega); have n_HB := ak (below_step HB.1 hb); clear HB; have HB := n_HB; clear n_HB; have BK5 := ak hbox; (try clear f5a f5b f5c f5d f5e); obtain ⟨f5a, f5b, f5c, f5d, f5e, _, _, _, _, _⟩ := bk5 BK5.1; clear hbox hb hg) | ((with_reducible refine gate_dst (N := 8) rfl ?_); refine box_event ?hg (N := 8) ?hd (cs := #[.slice A2 l2.length c2, .int .i64 t]) (t := 27) ?hr ?_; (case hd => rfl); (case hg => rfl); (case hr => first | (go_simp; done) | (go_simp; rfl)); intro g8 hg w8 hbox hb; have GE8 := ak (show w.heap.size ≤ g8 by have := HB.1.size; omega); have n_HB := ak (below_step HB.1 hb); have n_BK5 := ak (blk_below BK5.1 hb); clear HB; clear BK5; have HB := n_HB; have BK5 := n_BK5; clear n_HB n_BK5; (try clear f5a f5b f5c f5d f5e); obtain ⟨f5a, f5b, f5c, f5d, f5e, _, _, _, _, _⟩ := bk5 BK5.1; have BK8 := ak hbox; (try clear f8a f8b); obtain ⟨f8a, f8b, _, _⟩ := bk2 BK8.1; clear hbox hb hg) | (go_at_call 34; refine (small_walk _).mono ?_; rintro e w34 ⟨rfl, hb⟩; have n_HB := ak (below_step HB.1 hb); have n_BK5 := ak (blk_below BK5.1 hb); have n_BK8 := ak (blk_below BK8.1 hb); clear HB; clear BK5; clear BK8; have HB := n_HB; have BK5 := n_BK5; have BK8 := n_BK8; clear n_HB n_BK5 n_BK8; (try clear f5a f5b f5c f5d f5e); obtain ⟨f5a, f5b, f5c, f5d, f5e, _, _, _, _, _⟩ := bk5 BK5.1; (try clear f8a f8b); obtain ⟨f8a, f8b, _, _⟩ := bk2 BK8.1; clear hb) | (go_at_call 35; refine (taquinlaw27_given.calls 5001 _ _ _ _ _ l0_3 _ _ l0_4 _ _ l1 _ _ l2 t 9 _ _ (Kd.C_below HR3.1 HB.1) HQ3.1 (Kd.C_below HR4.1 HB.1) HQ4.1 (Kd.C_below HR1.1 HB.1) HQ1.1 (Kd.C_below HR2.1 HB.1) HQ2.1 HG.1).mono ?_; rintro e w35 ⟨rfl, hb⟩; have n_HB := ak (below_step HB.1 hb); have n_BK5 := ak (blk_below BK5.1 hb); have n_BK8 := ak (blk_below BK8.1 hb); clear HB; clear BK5; clear BK8; have HB := n_HB; have BK5 := n_BK5; have BK8 := n_BK8; clear n_HB n_BK5 n_BK8; (try clear f5a f5b f5c f5d f5e); obtain ⟨f5a, f5b, f5c, f5d, f5e, _, _, _, _, _⟩ := bk5 BK5.1; (try clear f8a f8b); obtain ⟨f8a, f8b, _, _⟩ := bk2 BK8.1; clear hb))
  go_ret
  exact ⟨rfl, HB.1⟩
 have h : goal < 0 ∨ (l1.length : Int) ≤ goal := h.resolve_left (by simp)
 by_cases q0 : goal < 0
 ·have z4 : decide (goal < 0) = true := decide_eq_true q0; clear h q0
  go_enter Try.func8, Try.ntmps8
  go_wp2_with (first | ((with_reducible refine gate_dst (N := 5) rfl ?_); refine box_event ?hg (N := 5) ?hd (cs := #[.int .i64 a0_0, .int .i64 a0_1, .int .i64 a0_2, .slice A0_3 l0_3.length c0_3, .slice A0_4 l0_4.length c0_4]) (t := 24) ?hr ?_; (case hd => rfl); (case hg => rfl); (case hr => first | (go_simp; done) | (go_simp; rfl)); intro g5 hg w5 hbox hb; have GE5 := ak (show w.heap.size ≤ g5 by have := HB.1.size; omega); have n_HB := ak (below_step HB.1 hb); clear HB; have HB := n_HB; clear n_HB; have BK5 := ak hbox; (try clear f5a f5b f5c f5d f5e); obtain ⟨f5a, f5b, f5c, f5d, f5e, _, _, _, _, _⟩ := bk5 BK5.1; clear hbox hb hg) | ((with_reducible refine gate_dst (N := 8) rfl ?_); refine box_event ?hg (N := 8) ?hd (cs := #[.slice A2 l2.length c2, .int .i64 t]) (t := 27) ?hr ?_; (case hd => rfl); (case hg => rfl); (case hr => first | (go_simp; done) | (go_simp; rfl)); intro g8 hg w8 hbox hb; have GE8 := ak (show w.heap.size ≤ g8 by have := HB.1.size; omega); have n_HB := ak (below_step HB.1 hb); have n_BK5 := ak (blk_below BK5.1 hb); clear HB; clear BK5; have HB := n_HB; have BK5 := n_BK5; clear n_HB n_BK5; (try clear f5a f5b f5c f5d f5e); obtain ⟨f5a, f5b, f5c, f5d, f5e, _, _, _, _, _⟩ := bk5 BK5.1; have BK8 := ak hbox; (try clear f8a f8b); obtain ⟨f8a, f8b, _, _⟩ := bk2 BK8.1; clear hbox hb hg) | (go_at_call 34; refine (small_walk _).mono ?_; rintro e w34 ⟨rfl, hb⟩; have n_HB := ak (below_step HB.1 hb); have n_BK5 := ak (blk_below BK5.1 hb); have n_BK8 := ak (blk_below BK8.1 hb); clear HB; clear BK5; clear BK8; have HB := n_HB; have BK5 := n_BK5; have BK8 := n_BK8; clear n_HB n_BK5 n_BK8; (try clear f5a f5b f5c f5d f5e); obtain ⟨f5a, f5b, f5c, f5d, f5e, _, _, _, _, _⟩ := bk5 BK5.1; (try clear f8a f8b); obtain ⟨f8a, f8b, _, _⟩ := bk2 BK8.1; clear hb) | (go_at_call 35; refine (taquinlaw27_given.calls 5001 _ _ _ _ _ l0_3 _ _ l0_4 _ _ l1 _ _ l2 t 9 _ _ (Kd.C_below HR3.1 HB.1) HQ3.1 (Kd.C_below HR4.1 HB.1) HQ4.1 (Kd.C_below HR1.1 HB.1) HQ1.1 (Kd.C_below HR2.1 HB.1) HQ2.1 HG.1).mono ?_; rintro e w35 ⟨rfl, hb⟩; have n_HB := ak (below_step HB.1 hb); have n_BK5 := ak (blk_below BK5.1 hb); have n_BK8 := ak (blk_below BK8.1 hb); clear HB; clear BK5; clear BK8; have HB := n_HB; have BK5 := n_BK5; have BK8 := n_BK8; clear n_HB n_BK5 n_BK8; (try clear f5a f5b f5c f5d f5e); obtain ⟨f5a, f5b, f5c, f5d, f5e, _, _, _, _, _⟩ := bk5 BK5.1; (try clear f8a f8b); obtain ⟨f8a, f8b, _, _⟩ := bk2 BK8.1; clear hb))
  go_ret
  exact ⟨rfl, HB.1⟩
 have z4 : decide (goal < 0) = false := decide_eq_false q0
 have q1 : (l1.length : Int) ≤ goal := by omega
 have z5 : decide (goal ≥ (l1.length : Int)) = true := decide_eq_true q1; have z5b : decide ((l1.length : Int) ≤ goal) = true := decide_eq_true q1; clear h q0 q1
 go_enter Try.func8, Try.ntmps8
 go_wp2_with (first | ((with_reducible refine gate_dst (N := 5) rfl ?_); refine box_event ?hg (N := 5) ?hd (cs := #[.int .i64 a0_0, .int .i64 a0_1, .int .i64 a0_2, .slice A0_3 l0_3.length c0_3, .slice A0_4 l0_4.length c0_4]) (t := 24) ?hr ?_; (case hd => rfl); (case hg => rfl); (case hr => first | (go_simp; done) | (go_simp; rfl)); intro g5 hg w5 hbox hb; have GE5 := ak (show w.heap.size ≤ g5 by have := HB.1.size; omega); have n_HB := ak (below_step HB.1 hb); clear HB; have HB := n_HB; clear n_HB; have BK5 := ak hbox; (try clear f5a f5b f5c f5d f5e); obtain ⟨f5a, f5b, f5c, f5d, f5e, _, _, _, _, _⟩ := bk5 BK5.1; clear hbox hb hg) | ((with_reducible refine gate_dst (N := 8) rfl ?_); refine box_event ?hg (N := 8) ?hd (cs := #[.slice A2 l2.length c2, .int .i64 t]) (t := 27) ?hr ?_; (case hd => rfl); (case hg => rfl); (case hr => first | (go_simp; done) | (go_simp; rfl)); intro g8 hg w8 hbox hb; have GE8 := ak (show w.heap.size ≤ g8 by have := HB.1.size; omega); have n_HB := ak (below_step HB.1 hb); have n_BK5 := ak (blk_below BK5.1 hb); clear HB; clear BK5; have HB := n_HB; have BK5 := n_BK5; clear n_HB n_BK5; (try clear f5a f5b f5c f5d f5e); obtain ⟨f5a, f5b, f5c, f5d, f5e, _, _, _, _, _⟩ := bk5 BK5.1; have BK8 := ak hbox; (try clear f8a f8b); obtain ⟨f8a, f8b, _, _⟩ := bk2 BK8.1; clear hbox hb hg) | (go_at_call 34; refine (small_walk _).mono ?_; rintro e w34 ⟨rfl, hb⟩; have n_HB := ak (below_step HB.1 hb); have n_BK5 := ak (blk_below BK5.1 hb); have n_BK8 := ak (blk_below BK8.1 hb); clear HB; clear BK5; clear BK8; have HB := n_HB; have BK5 := n_BK5; have BK8 := n_BK8; clear n_HB n_BK5 n_BK8; (try clear f5a f5b f5c f5d f5e); obtain ⟨f5a, f5b, f5c, f5d, f5e, _, _, _, _, _⟩ := bk5 BK5.1; (try clear f8a f8b); obtain ⟨f8a, f8b, _, _⟩ := bk2 BK8.1; clear hb) | (go_at_call 35; refine (taquinlaw27_given.calls 5001 _ _ _ _ _ l0_3 _ _ l0_4 _ _ l1 _ _ l2 t 9 _ _ (Kd.C_below HR3.1 HB.1) HQ3.1 (Kd.C_below HR4.1 HB.1) HQ4.1 (Kd.C_below HR1.1 HB.1) HQ1.1 (Kd.C_below HR2.1 HB.1) HQ2.1 HG.1).mono ?_; rintro e w35 ⟨rfl, hb⟩; have n_HB := ak (below_step HB.1 hb); have n_BK5 := ak (blk_below BK5.1 hb); have n_BK8 := ak (blk_below BK8.1 hb); clear HB; clear BK5; clear BK8; have HB := n_HB; have BK5 := n_BK5; have BK8 := n_BK8; clear n_HB n_BK5 n_BK8; (try clear f5a f5b f5c f5d f5e); obtain ⟨f5a, f5b, f5c, f5d, f5e, _, _, _, _, _⟩ := bk5 BK5.1; (try clear f8a f8b); obtain ⟨f8a, f8b, _, _⟩ := bk2 BK8.1; clear hb))
 go_ret
 exact ⟨rfl, HB.1⟩
set_option maxHeartbeats 4000000 in
set_option maxRecDepth 100000 in
theorem more_in (a0_0 : Int) (a0_1 : Int) (a0_2 : Int) (A0_3 : Option Addr) (c0_3 : Nat) (l0_3 : List Int) (A0_4 : Option Addr) (c0_4 : Nat) (l0_4 : List Int) (A1 : Option Addr) (c1 : Nat) (l1 : List Int) (g : Nat) (A2 : Option Addr) (c2 : Nat) (l2 : List Bool) (t : Nat) (bits : Int) (w : World) (hr3 : Kd.C (Kd.int .i64) w A0_3 l0_3.length l0_3) (hc3 : l0_3.length ≤ c0_3) (hr4 : Kd.C (Kd.int .i64) w A0_4 l0_4.length l0_4) (hc4 : l0_4.length ≤ c0_4) (hr1 : Kd.C (Kd.int .i64) w A1 l1.length l1) (hc1 : l1.length ≤ c1) (hr2 : Kd.C Kd.bool w A2 l2.length l2) (hc2 : l2.length ≤ c2) (hg : taquinlaw27_given.f 5001 a0_0 a0_1 a0_2 l0_3 l0_4 l1 l2 (t : Int) 9 = some true) (hgn : g < l1.length) (hn : l1.length ≤ 9) (hll : l2.length = l1.length) (htg : l2.getD t false = true) (hf : FloorOk a0_0 a0_1 a0_2 l0_3 l0_4) (hs : l1.Pairwise (· < ·)) (cl : List Bool) (hcl : taquinref27_Choice.f (l2.length + 1) l2 (t : Int) bits = some (cl, (t : Int))) (hcs : Sub cl l2) (hct : cl.getD t false = true) :
  Calls Try.prog 8 #[.agg #[.int .i64 a0_0, .int .i64 a0_1, .int .i64 a0_2, .slice A0_3 l0_3.length c0_3, .slice A0_4 l0_4.length c0_4], .slice A1 l1.length c1, .int .i64 (g : Int), .agg #[.slice A2 l2.length c2, .int .i64 (t : Int)], .int .i64 bits] w fun e w' => e = .returned (.bool true) ∧ Below w.heap.size w w' := by
 have hu24 := Try.underlying24; have hu27 := Try.underlying27; have HB := ak (Below.refl w.heap.size w); have HR3 := ak hr3; have HQ3 := ak hc3; have HR4 := ak hr4; have HQ4 := ak hc4; have HR1 := ak hr1; have HQ1 := ak hc1; have HR2 := ak hr2; have HQ2 := ak hc2; have HG := ak hg; clear hr3 hc3 hr4 hc4 hr1 hc1 hr2 hc2 hg; have HGN := ak hgn; have HN := ak hn; have HLL := ak hll; have HTG := ak htg; have HF0 := ak hf; have HS0 := ak hs; have HCL := ak hcl; have HCS := ak hcs; have HCT := ak hct; have HCLL := ak (hcs.len.trans hll); have z4 : decide ((g : Int) < 0) = false := decide_eq_false (by omega); have z5 : decide ((g : Int) ≥ (l1.length : Int)) = false := decide_eq_false (by omega); have z5b : decide (l1.length ≤ g) = false := decide_eq_false (by omega); clear hgn hn hll htg hf hs hcl hcs hct
 go_enter Try.func8, Try.ntmps8
 go_upto_block 0 with (first | ((with_reducible refine gate_dst (N := 5) rfl ?_); refine box_event ?hg (N := 5) ?hd (cs := #[.int .i64 a0_0, .int .i64 a0_1, .int .i64 a0_2, .slice A0_3 l0_3.length c0_3, .slice A0_4 l0_4.length c0_4]) (t := 24) ?hr ?_; (case hd => rfl); (case hg => rfl); (case hr => first | (go_simp; done) | (go_simp; rfl)); intro g5 hg w5 hbox hb; have GE5 := ak (show w.heap.size ≤ g5 by have := HB.1.size; omega); have n_HB := ak (below_step HB.1 hb); clear HB; have HB := n_HB; clear n_HB; have BK5 := ak hbox; (try clear f5a f5b f5c f5d f5e); obtain ⟨f5a, f5b, f5c, f5d, f5e, _, _, _, _, _⟩ := bk5 BK5.1; clear hbox hb hg) | ((with_reducible refine gate_dst (N := 8) rfl ?_); refine box_event ?hg (N := 8) ?hd (cs := #[.slice A2 l2.length c2, .int .i64 (t : Int)]) (t := 27) ?hr ?_; (case hd => rfl); (case hg => rfl); (case hr => first | (go_simp; done) | (go_simp; rfl)); intro g8 hg w8 hbox hb; have GE8 := ak (show w.heap.size ≤ g8 by have := HB.1.size; omega); have n_HB := ak (below_step HB.1 hb); have n_BK5 := ak (blk_below BK5.1 hb); clear HB; clear BK5; have HB := n_HB; have BK5 := n_BK5; clear n_HB n_BK5; (try clear f5a f5b f5c f5d f5e); obtain ⟨f5a, f5b, f5c, f5d, f5e, _, _, _, _, _⟩ := bk5 BK5.1; have BK8 := ak hbox; (try clear f8a f8b); obtain ⟨f8a, f8b, _, _⟩ := bk2 BK8.1; clear hbox hb hg) | (go_at_call 34; refine (small_walk _).mono ?_; rintro e w34 ⟨rfl, hb⟩; have n_HB := ak (below_step HB.1 hb); have n_BK5 := ak (blk_below BK5.1 hb); have n_BK8 := ak (blk_below BK8.1 hb); clear HB; clear BK5; clear BK8; have HB := n_HB; have BK5 := n_BK5; have BK8 := n_BK8; clear n_HB n_BK5 n_BK8; (try clear f5a f5b f5c f5d f5e); obtain ⟨f5a, f5b, f5c, f5d, f5e, _, _, _, _, _⟩ := bk5 BK5.1; (try clear f8a f8b); obtain ⟨f8a, f8b, _, _⟩ := bk2 BK8.1; clear hb) | (go_at_call 35; refine (taquinlaw27_given.calls 5001 _ _ _ _ _ l0_3 _ _ l0_4 _ _ l1 _ _ l2 (t : Int) 9 true _ (Kd.C_below HR3.1 HB.1) HQ3.1 (Kd.C_below HR4.1 HB.1) HQ4.1 (Kd.C_below HR1.1 HB.1) HQ1.1 (Kd.C_below HR2.1 HB.1) HQ2.1 HG.1).mono ?_; rintro e w35 ⟨rfl, hb⟩; have n_HB := ak (below_step HB.1 hb); have n_BK5 := ak (blk_below BK5.1 hb); have n_BK8 := ak (blk_below BK8.1 hb); clear HB; clear BK5; clear BK8; have HB := n_HB; have BK5 := n_BK5; have BK8 := n_BK8; clear n_HB n_BK5 n_BK8; (try clear f5a f5b f5c f5d f5e); obtain ⟨f5a, f5b, f5c, f5d, f5e, _, _, _, _, _⟩ := bk5 BK5.1; (try clear f8a f8b); obtain ⟨f8a, f8b, _, _⟩ := bk2 BK8.1; clear hb))
 clear z4 z5 z5b f5a f5b f5c f5d f5e f8a f8b
 go_wp2
 go_loopg [12, 13] 3 (fun kq v12 v13 w' => ∃ (kk : Nat) (P : Int), v12 = .int .i64 P ∧ v13 = .int .i64 (kk : Int) ∧ Aside0 (kq + kk = 3) ∧ Aside0 (kk ≤ 3) ∧ Aside0 (-1 ≤ P ∧ ∀ tabs', Tabs a0_0 a0_1 a0_2 l0_3 l0_4 l1 kk g tabs' → Leq P (bv tabs' t l2)) ∧ Aside0 (w'.heap[g5]? = some (.cells #[.int .i64 a0_0, .int .i64 a0_1, .int .i64 a0_2, .slice A0_3 l0_3.length c0_3, .slice A0_4 l0_4.length c0_4] 24 (0, 0))) ∧ Aside0 (w'.heap[g8]? = some (.cells #[.slice A2 l2.length c2, .int .i64 (t : Int)] 27 (0, 0))) ∧ Aside0 (Below w.heap.size w w'))
 case atStart => exact ⟨0, 0, rfl, rfl, ⟨by omega⟩, ⟨by omega⟩, ⟨by omega, fun tabs' _ h => ⟨by omega, h⟩⟩, BK5, BK8, HB⟩
 case round =>
  clear BK5 BK8 HB; obtain ⟨kk, P, rfl, rfl, HKQ, HK3, HP, BK5, BK8, HB⟩ := hrel; (try clear f5a f5b f5c f5d f5e); obtain ⟨f5a, f5b, f5c, f5d, f5e, _, _, _, _, _⟩ := bk5 BK5.1; (try clear f8a f8b); obtain ⟨f8a, f8b, _, _⟩ := bk2 BK8.1
  by_cases hk3 : kk < 3
  ·have y1 : decide ((kk : Int) < 3) = true := decide_eq_true (by omega); have y2 : decide (kk < 3) = true := decide_eq_true hk3
   by_cases hkl : kk < l1.length
   ·have y3 : decide ((kk : Int) < (l1.length : Int)) = true := decide_eq_true (by omega); have y4 : decide (kk < l1.length) = true := decide_eq_true hkl; have y5 : IntKind.i64.wrap ((kk : Int) + 1) = (kk : Int) + 1 := IntWalk.i64_in _ (by omega); obtain ⟨tabs, hT⟩ := tabs_ex (k := kk) (g := g) HF0.1 HS0.1 hkl HGN.1 (by have := HN.1; omega) (fun j hj => cnt_small _ (by have := HN.1; omega) j (by omega)); have HT := ak hT; have HK3' := ak hk3; have HK := ak (show kk ≤ 2 by omega); have HKN := ak hkl; obtain ⟨B, hB⟩ : ∃ B, B = bv tabs t l2 := ⟨_, rfl⟩; obtain ⟨N, hN⟩ : ∃ N, N = bv tabs t cl := ⟨_, rfl⟩; have HBV := ak hB; have HBN := ak hN; have HLE := ak (show Leq P B by rw [hB]; exact HP.1.2 tabs hT); have HLN := ak (show Leq N B by rw [hB, hN]; exact bv_more hT hT HCS.1 HLL.1 HCT.1 (Nat.le_refl _)); have HPN := ak (show -1 ≤ B ∧ ∀ tabs', Tabs a0_0 a0_1 a0_2 l0_3 l0_4 l1 (kk + 1) g tabs' → Leq B (bv tabs' t l2) by rw [hB]; exact ⟨bv_lo _ _ _, fun tabs' hT' => bv_more hT hT' (Sub.refl l2) HLL.1 HTG.1 (Nat.le_succ _)⟩); have HLO := ak (show -1 ≤ P ∧ -1 ≤ B ∧ -1 ≤ N from ⟨HP.1.1, by rw [hB]; exact bv_lo _ _ _, by rw [hN]; exact bv_lo _ _ _⟩); clear hT hB hN hk3 hkl HP
    go_upto_region 12 with (first | (go_at_call 36; refine (build_ok _ _ _ _ _ l0_3 _ _ l0_4 _ _ l1 kk g tabs _ (Kd.C_below HR3.1 HB.1) HQ3.1 (Kd.C_below HR4.1 HB.1) HQ4.1 (Kd.C_below HR1.1 HB.1) HQ1.1 HGN.1 HKN.1 (by have := HN.1; omega) (fun j hj => cnt_small _ (by have := HN.1; omega) j (by have := HK.1; omega)) HT.1.len HT.1.tab).mono ?_; rintro e w36 ⟨gd, rfl, hge, hdb, hb⟩; have n_HB := ak (below_step HB.1 hb); have n_BK5 := ak (blk_below BK5.1 hb); have n_BK8 := ak (blk_below BK8.1 hb); clear HB; clear BK5; clear BK8; have HB := n_HB; have BK5 := n_BK5; have BK8 := n_BK8; clear n_HB n_BK5 n_BK8; (try clear f5a f5b f5c f5d f5e); obtain ⟨f5a, f5b, f5c, f5d, f5e, _, _, _, _, _⟩ := bk5 BK5.1; (try clear f8a f8b); obtain ⟨f8a, f8b, _, _⟩ := bk2 BK8.1; have HDB := ak hdb; clear hb hge hdb) | (go_at_call 37; refine (bound_ok HT.1 (by have := HN.1; omega) gd _ _ _ _ l2 t _ HDB.1 (Kd.C_below HR2.1 HB.1) HQ2.1 HLL.1 HTG.1 (fun j hj => cnt_small _ (by have := HN.1; omega) j (by have := HK.1; omega)) (by have := HK.1; omega)).mono ?_; rintro e w37 ⟨rfl, hb⟩; rw [← HBV.1]; have n_HB := ak (below_step HB.1 hb); have n_BK5 := ak (blk_below BK5.1 hb); have n_BK8 := ak (blk_below BK8.1 hb); have n_HDB := ak (HDB.1.below hb); clear HB; clear BK5; clear BK8; clear HDB; have HB := n_HB; have BK5 := n_BK5; have BK8 := n_BK8; have HDB := n_HDB; clear n_HB n_BK5 n_BK8 n_HDB; (try clear f5a f5b f5c f5d f5e); obtain ⟨f5a, f5b, f5c, f5d, f5e, _, _, _, _, _⟩ := bk5 BK5.1; (try clear f8a f8b); obtain ⟨f8a, f8b, _, _⟩ := bk2 BK8.1; clear hb))
    obtain ⟨o1, o2, o3⟩ := HLO.1; have le1 := HLE.1; have le2 := HLN.1
    unfold Leq at le1 le2
    by_cases hp : P = -1
    ·have hb1 : B = -1 := by
      rcases (by omega : B = -1 ∨ 0 ≤ B) with q | q
      ·exact q
      ·have := le1 q; omega
     clear le1 le2 o1 o2 o3; subst hp hb1
     go_wp2_with (first | (go_at_call 38; refine (taquinref27_Choice.calls (l2.length + 1) _ _ l2 (t : Int) bits cl (t : Int) _ (Kd.C_below HR2.1 HB.1) HQ2.1 HCL.1).mono ?_; rintro e w38 ⟨v38, rfl, hR, hb⟩; obtain ⟨Ac, cc, hv⟩ := Kd.R_slice hR; subst hv; have HSC := ak hR; have n_HB := ak (below_step HB.1 hb); have n_BK5 := ak (blk_below BK5.1 hb); have n_BK8 := ak (blk_below BK8.1 hb); have n_HDB := ak (HDB.1.below hb); clear HB; clear BK5; clear BK8; clear HDB; have HB := n_HB; have BK5 := n_BK5; have BK8 := n_BK8; have HDB := n_HDB; clear n_HB n_BK5 n_BK8 n_HDB; (try clear f5a f5b f5c f5d f5e); obtain ⟨f5a, f5b, f5c, f5d, f5e, _, _, _, _, _⟩ := bk5 BK5.1; (try clear f8a f8b); obtain ⟨f8a, f8b, _, _⟩ := bk2 BK8.1; clear hb hR) | (go_at_call 37; refine (bound_ok HT.1 (by have := HN.1; omega) gd _ _ _ _ cl t _ HDB.1 (Kd.R_reads' HSC.1).2.2 (Kd.R_reads' HSC.1).2.1 HCLL.1 HCT.1 (fun j hj => cnt_small _ (by have := HN.1; omega) j (by have := HK.1; omega)) (by have := HK.1; omega)).mono ?_; rintro e w37 ⟨rfl, hb⟩; rw [← HBN.1]; have n_HB := ak (below_step HB.1 hb); have n_BK5 := ak (blk_below BK5.1 hb); have n_BK8 := ak (blk_below BK8.1 hb); have n_HDB := ak (HDB.1.below hb); clear HB; clear BK5; clear BK8; clear HDB; have HB := n_HB; have BK5 := n_BK5; have BK8 := n_BK8; have HDB := n_HDB; clear n_HB n_BK5 n_BK8 n_HDB; (try clear f5a f5b f5c f5d f5e); obtain ⟨f5a, f5b, f5c, f5d, f5e, _, _, _, _, _⟩ := bk5 BK5.1; (try clear f8a f8b); obtain ⟨f8a, f8b, _, _⟩ := bk2 BK8.1; clear hb))
     go_roundg (gk - 1)
     case measure => have := HKQ.1; have := HK.1; omega
     case rel => exact ⟨kk + 1, _, rfl, by go_num, ⟨by have := HKQ.1; have := HK.1; omega⟩, ⟨by have := HK.1; omega⟩, HPN, BK5, BK8, HB⟩
    ·have s1 : decide (P = -1) = false := decide_eq_false hp
     have s2 : (P == -1) = false := by rw [← s1]; rfl
     by_cases hb1 : B = -1
     ·clear le1 le2 o1 o2 o3 hp; subst hb1
      go_wp2_with (first | (go_at_call 38; refine (taquinref27_Choice.calls (l2.length + 1) _ _ l2 (t : Int) bits cl (t : Int) _ (Kd.C_below HR2.1 HB.1) HQ2.1 HCL.1).mono ?_; rintro e w38 ⟨v38, rfl, hR, hb⟩; obtain ⟨Ac, cc, hv⟩ := Kd.R_slice hR; subst hv; have HSC := ak hR; have n_HB := ak (below_step HB.1 hb); have n_BK5 := ak (blk_below BK5.1 hb); have n_BK8 := ak (blk_below BK8.1 hb); have n_HDB := ak (HDB.1.below hb); clear HB; clear BK5; clear BK8; clear HDB; have HB := n_HB; have BK5 := n_BK5; have BK8 := n_BK8; have HDB := n_HDB; clear n_HB n_BK5 n_BK8 n_HDB; (try clear f5a f5b f5c f5d f5e); obtain ⟨f5a, f5b, f5c, f5d, f5e, _, _, _, _, _⟩ := bk5 BK5.1; (try clear f8a f8b); obtain ⟨f8a, f8b, _, _⟩ := bk2 BK8.1; clear hb hR) | (go_at_call 37; refine (bound_ok HT.1 (by have := HN.1; omega) gd _ _ _ _ cl t _ HDB.1 (Kd.R_reads' HSC.1).2.2 (Kd.R_reads' HSC.1).2.1 HCLL.1 HCT.1 (fun j hj => cnt_small _ (by have := HN.1; omega) j (by have := HK.1; omega)) (by have := HK.1; omega)).mono ?_; rintro e w37 ⟨rfl, hb⟩; rw [← HBN.1]; have n_HB := ak (below_step HB.1 hb); have n_BK5 := ak (blk_below BK5.1 hb); have n_BK8 := ak (blk_below BK8.1 hb); have n_HDB := ak (HDB.1.below hb); clear HB; clear BK5; clear BK8; clear HDB; have HB := n_HB; have BK5 := n_BK5; have BK8 := n_BK8; have HDB := n_HDB; clear n_HB n_BK5 n_BK8 n_HDB; (try clear f5a f5b f5c f5d f5e); obtain ⟨f5a, f5b, f5c, f5d, f5e, _, _, _, _, _⟩ := bk5 BK5.1; (try clear f8a f8b); obtain ⟨f8a, f8b, _, _⟩ := bk2 BK8.1; clear hb))
      go_roundg (gk - 1)
      case measure => have := HKQ.1; have := HK.1; omega
      case rel => exact ⟨kk + 1, _, rfl, by go_num, ⟨by have := HKQ.1; have := HK.1; omega⟩, ⟨by have := HK.1; omega⟩, HPN, BK5, BK8, HB⟩
     ·obtain ⟨i1, i2⟩ := le1 (by omega); obtain ⟨i3, i4⟩ := le2 (by omega); have s3 : decide (B ≥ 0) = true := decide_eq_true (by omega); have s4 : decide (0 ≤ B) = true := s3; have s5 : decide (B < P) = false := decide_eq_false (by omega); have s6 : decide (N < 0) = false := decide_eq_false (by omega); have s7 : decide (N > B) = false := decide_eq_false (by omega); have s8 : decide (B < N) = false := s7; have s9 : decide (B = -1) = false := decide_eq_false hb1
      have s10 : (B == -1) = false := by rw [← s9]; rfl
      clear le1 le2 o1 o2 o3 hp hb1 i1 i2 i3 i4
      go_wp2_with (first | (go_at_call 38; refine (taquinref27_Choice.calls (l2.length + 1) _ _ l2 (t : Int) bits cl (t : Int) _ (Kd.C_below HR2.1 HB.1) HQ2.1 HCL.1).mono ?_; rintro e w38 ⟨v38, rfl, hR, hb⟩; obtain ⟨Ac, cc, hv⟩ := Kd.R_slice hR; subst hv; have HSC := ak hR; have n_HB := ak (below_step HB.1 hb); have n_BK5 := ak (blk_below BK5.1 hb); have n_BK8 := ak (blk_below BK8.1 hb); have n_HDB := ak (HDB.1.below hb); clear HB; clear BK5; clear BK8; clear HDB; have HB := n_HB; have BK5 := n_BK5; have BK8 := n_BK8; have HDB := n_HDB; clear n_HB n_BK5 n_BK8 n_HDB; (try clear f5a f5b f5c f5d f5e); obtain ⟨f5a, f5b, f5c, f5d, f5e, _, _, _, _, _⟩ := bk5 BK5.1; (try clear f8a f8b); obtain ⟨f8a, f8b, _, _⟩ := bk2 BK8.1; clear hb hR) | (go_at_call 37; refine (bound_ok HT.1 (by have := HN.1; omega) gd _ _ _ _ cl t _ HDB.1 (Kd.R_reads' HSC.1).2.2 (Kd.R_reads' HSC.1).2.1 HCLL.1 HCT.1 (fun j hj => cnt_small _ (by have := HN.1; omega) j (by have := HK.1; omega)) (by have := HK.1; omega)).mono ?_; rintro e w37 ⟨rfl, hb⟩; rw [← HBN.1]; have n_HB := ak (below_step HB.1 hb); have n_BK5 := ak (blk_below BK5.1 hb); have n_BK8 := ak (blk_below BK8.1 hb); have n_HDB := ak (HDB.1.below hb); clear HB; clear BK5; clear BK8; clear HDB; have HB := n_HB; have BK5 := n_BK5; have BK8 := n_BK8; have HDB := n_HDB; clear n_HB n_BK5 n_BK8 n_HDB; (try clear f5a f5b f5c f5d f5e); obtain ⟨f5a, f5b, f5c, f5d, f5e, _, _, _, _, _⟩ := bk5 BK5.1; (try clear f8a f8b); obtain ⟨f8a, f8b, _, _⟩ := bk2 BK8.1; clear hb))
      go_roundg (gk - 1)
      case measure => have := HKQ.1; have := HK.1; omega
      case rel => exact ⟨kk + 1, _, rfl, by go_num, ⟨by have := HKQ.1; have := HK.1; omega⟩, ⟨by have := HK.1; omega⟩, HPN, BK5, BK8, HB⟩
   ·have y3 : decide ((kk : Int) < (l1.length : Int)) = false := decide_eq_false (by omega); have y4 : decide (kk < l1.length) = false := decide_eq_false hkl
    have y5 : (l1.length : Int) ≤ (kk : Int) := by omega
    clear hk3 hkl HP
    go_wp2_with fail
    go_ret
    exact ⟨rfl, HB.1⟩
  ·have y1 : decide ((kk : Int) < 3) = false := decide_eq_false (by omega); have y2 : decide (kk < 3) = false := decide_eq_false hk3; clear hk3 HP
   go_wp2_with fail
   go_ret
   exact ⟨rfl, HB.1⟩
theorem more_walk {a0_0 a0_1 a0_2 : Int} {A0_3 : Option Addr} {c0_3 : Nat} {l0_3 : List Int} {A0_4 : Option Addr} {c0_4 : Nat} {l0_4 : List Int} {A1 : Option Addr} {c1 : Nat} {l1 : List Int} {goal : Int} {A2 : Option Addr} {c2 : Nat} {l2 : List Bool} {t bits : Int} (w : World)
  (hr0_3 : ReadsInt w .i64 A0_3 l0_3.length l0_3) (hc0_3 : l0_3.length ≤ c0_3) (hr0_4 : ReadsInt w .i64 A0_4 l0_4.length l0_4) (hc0_4 : l0_4.length ≤ c0_4) (hr1 : ReadsInt w .i64 A1 l1.length l1) (hc1 : l1.length ≤ c1) (_ : l1.length ≤ maxLen) (_ : (Lit.int .i64 goal).wf = true) (hr2 : ReadsOf Value.bool false w A2 l2.length l2) (hc2 : l2.length ≤ c2) (_ : (Lit.int .i64 t).wf = true) (_ : (Lit.int .i64 bits).wf = true) :
  Calls Try.prog 8 #[.agg #[.int .i64 a0_0, .int .i64 a0_1, .int .i64 a0_2, .slice A0_3 l0_3.length c0_3, .slice A0_4 l0_4.length c0_4], .slice A1 l1.length c1, .int .i64 goal, .agg #[.slice A2 l2.length c2, .int .i64 t], .int .i64 bits] w fun e w' => e = .returned (.bool true) ∧ Below w.heap.size w w' := by
 have q3 := Kd.C_of_reads (d := (0 : Int)) (h1 := fun _ => rfl) hr0_3; have q4 := Kd.C_of_reads (d := (0 : Int)) (h1 := fun _ => rfl) hr0_4; have q1 := Kd.C_of_reads (d := (0 : Int)) (h1 := fun _ => rfl) hr1; have q2 : Kd.C Kd.bool w A2 l2.length l2 := Kd.C_of_reads (d := false) (h1 := fun _ => rfl) hr2; obtain ⟨b, hb, hG⟩ := given_f a0_0 a0_1 a0_2 l0_3 l0_4 l1 l2 t 9 (by omega)
 by_cases ho : b = false ∨ goal < 0 ∨ (l1.length : Int) ≤ goal
 ·exact more_out _ _ _ _ _ _ _ _ _ _ _ _ _ _ _ _ _ _ b w q3 hc0_3 q4 hc0_4 q1 hc1 q2 hc2 hb ho
 ·have hbt : b = true := by cases b; exact absurd (.inl rfl) ho; rfl
  obtain ⟨hf, hs, hn, hok, hll⟩ := hG hbt; subst hbt; obtain ⟨g, rfl⟩ : ∃ g : Nat, goal = (g : Int) := ⟨goal.toNat, by omega⟩; obtain ⟨o1, o2, o3, o4, o5⟩ := okL_iff.1 hok; obtain ⟨T, rfl⟩ : ∃ T : Nat, t = (T : Int) := ⟨t.toNat, by omega⟩; rw [Int.toNat_natCast] at o5; obtain ⟨cl, hcl, hcs, hct⟩ := choice_f l2 T bits (by omega) o5; exact more_in _ _ _ _ _ _ _ _ _ _ _ _ g _ _ _ T bits w q3 hc0_3 q4 hc0_4 q1 hc1 q2 hc2 hb (by omega) hn hll o5 hf hs cl hcl hcs hct
end Go.Proofs.Ytogmjilaiopjmaa.P
end
