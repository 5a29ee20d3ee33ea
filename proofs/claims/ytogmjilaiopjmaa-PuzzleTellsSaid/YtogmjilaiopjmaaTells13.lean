/- Lemmas for the row of this claim: contracts of the functions that it reaches, and plain laws about numbers and lists. -/
import Derived.Test.YtogmjilaiopjmaaTells12
import Derived.Shelf.SlSortCmp.NoneTotal
set_option linter.unusedVariables false
set_option linter.unusedSimpArgs false
section
namespace Go.Proofs.Ytogmjilaiopjmaa.P
open Go.RowKit Go.Proofs.YtogmjilaiopjmaaW.PrintWords Go.Proofs.YtogmjilaiopjmaaW.PrintLast Go.Proofs.YtogmjilaiopjmaaW.PrintMore
def Small (l : List S51) : Prop := ∀ s ∈ l, 0 ≤ s.f0 ∧ s.f0 < 32 ∧ 0 ≤ s.f1 ∧ s.f1 < 32
def Cells51 (cur : Array Value) (l : List S51) : Prop := ∀ j, (h : j < l.length) → cur[j * 2]? = some (.int .i64 (l[j]).f0) ∧ cur[j * 2 + 1]? = some (.int .i64 (l[j]).f1)
theorem R51_of {w : World} {base g cap : Nat} {cur : Array Value} {l : List S51} (hg : base ≤ g) (hb : w.heap[g]? = some (.cells cur 51 (0, 0))) (hc : cur.size = cap * 2) (hl : l.length ≤ cap) (hm : cap ≤ maxLen) (hcell : Cells51 cur l) : Kd.R k51 51 w base (fun _ => True) (.slice (some ⟨g, 0, none⟩) l.length cap) l := by
 refine ⟨fun _ _ => trivial, cur.toList.take (l.length * 2), ⟨?_, .inr ⟨g, cap, cur, rfl, hg, hb, hl, hm, hc, rfl⟩⟩, ?_, ?_⟩
 ·have h2 : k51.sz = 2 := rfl; rw [List.length_take, h2, Nat.min_eq_left]; have := Nat.mul_le_mul_right 2 hl
  simpa [hc] using this
 ·have h2 : k51.sz = 2 := rfl; rw [List.length_take, h2, Nat.min_eq_left]; have := Nat.mul_le_mul_right 2 hl
  simpa [hc] using this
 ·intro j p hp; obtain ⟨hj, rfl⟩ := List.getElem?_eq_some_iff.1 hp; have hsz : k51.sz = 2 := rfl; rw [hsz]
  have e : ((cur.toList.take (l.length * 2)).drop (j * 2)).take 2 = [.int .i64 (l[j]).f0, .int .i64 (l[j]).f1] := by
   obtain ⟨h0, h1⟩ := hcell j hj
   apply List.ext_getElem?
   intro i; rw [List.getElem?_take]
   split
   ·rename_i hi
    rw [List.getElem?_drop, List.getElem?_take, if_pos (by omega), Array.getElem?_toList]
    rcases (by omega : i = 0 ∨ i = 1) with rfl | rfl
    ·simpa using h0
    ·simpa using h1
   ·rename_i hi
    rw [List.getElem?_eq_none (by simp; omega)]
  rw [e]; exact k51_mkM ..
theorem R51_open {w : World} {base : Nat} {v : Value} {l : List S51} (h : Kd.R k51 51 w base (fun _ => True) v l) : (v = .slice none 0 0 ∧ l = []) ∨ ∃ g cap cur, v = .slice (some ⟨g, 0, none⟩) l.length cap ∧ base ≤ g ∧ w.heap[g]? = some (.cells cur 51 (0, 0)) ∧ cur.size = cap * 2 ∧ l.length ≤ cap ∧ cap ≤ maxLen ∧ Cells51 cur l := by
 obtain ⟨_, inner, ⟨hlen, ho⟩, hr1, hr2⟩ := h
 rcases ho with ⟨rfl, hn⟩ | ⟨g, cap, cur, rfl, hg, hb, hl, hm, hc, ht⟩
 ·exact .inl ⟨rfl, List.eq_nil_of_length_eq_zero hn⟩
 ·refine .inr ⟨g, cap, cur, rfl, hg, hb, hc, hl, hm, fun j hj => ?_⟩; have hsz : k51.sz = 2 := rfl; have hM := hr2 j l[j] (List.getElem?_eq_getElem hj); have hE := k51_openM hM; rw [hsz] at hE ht
  have key : ∀ i u, i < 2 → ([.int .i64 (l[j]).f0, .int .i64 (l[j]).f1] : List Value)[i]? = some u → cur[j * 2 + i]? = some u := by
   intro i u hi hu; rw [← hE, List.getElem?_take, if_pos hi, List.getElem?_drop, ← ht, List.getElem?_take, if_pos (by omega), Array.getElem?_toList] at hu; exact hu
  exact ⟨by simpa using key 0 _ (by omega) rfl, key 1 _ (by omega) rfl⟩
def toP (s : S51) : Fin 32 × Fin 32 := (Fin.ofNat 32 s.f0.toNat, Fin.ofNat 32 s.f1.toNat)
def ofP (p : Fin 32 × Fin 32) : S51 := ⟨(p.1.val : Int), (p.2.val : Int)⟩
theorem ofP_toP {s : S51} (h : 0 ≤ s.f0 ∧ s.f0 < 32 ∧ 0 ≤ s.f1 ∧ s.f1 < 32) : ofP (toP s) = s := by
 obtain ⟨a, b⟩ := s
 simp only at h
 simp only [ofP, toP, Fin.ofNat]; have e1 : a.toNat % 32 = a.toNat := Nat.mod_eq_of_lt (by omega); have e2 : b.toNat % 32 = b.toNat := Nat.mod_eq_of_lt (by omega); rw [e1, e2]
 congr 1 <;> omega
theorem encP_ofP (p : Fin 32 × Fin 32) : encP p = [.int .i64 (ofP p).f0, .int .i64 (ofP p).f1] := rfl
theorem cmpP_lt (x y : Fin 32 × Fin 32) : ltOf cmpP x y = true ↔ ltS (ofP x) (ofP y) := by
 obtain ⟨⟨a, ha⟩, ⟨b, hb⟩⟩ := x; obtain ⟨⟨c, hc⟩, ⟨d, hd⟩⟩ := y; simp only [ltOf, cmpP, ltS, ofP, Fin.mk.injEq, ne_eq, decide_eq_true_eq]
 by_cases h : a = c
 ·subst h
  simp
  omega
 ·simp only [h, not_false_eq_true, if_true]
  omega
theorem cmpP_not (x y : Fin 32 × Fin 32) : ltOf cmpP x y = false ↔ ¬ ltS (ofP x) (ofP y) := by
 rw [← cmpP_lt]
 simp
theorem swoP : Sort.SWO (ltOf cmpP) where
 irrefl x := by rw [cmpP_not]; exact ltS_irrefl _
 trans x y z h1 h2 := by rw [cmpP_lt] at *; exact ltS_trans h1 h2
 ntrans x y z h1 h2 := by rw [cmpP_not] at *; unfold ltS at *; omega
theorem cmpLaysP (blk off size : Nat) (w : World) : CmpLays Try.prog 86 #[] encP 2 cmpP blk off size w := by
 intro m os dk hdk x y; have h := shifts_cmp x.1.val x.2.val y.1.val y.2.val (cmpP x y) (sortWorldK encP 2 w blk off m dk os) x.1.2 x.2.2 y.1.2 y.2.2 (by unfold cmpP; simp [Fin.ext_iff]); exact h
theorem getFlat {d : Array (Fin 32 × Fin 32)} {t : Nat} (h : t < d.size * 2) : (Go.Sort.flatK encP 2 d)[t]! = (encP d[t / 2]!)[t % 2]! := Go.Sort.get_flatK encP 2 d t h
theorem holdsP {w : World} {g : Nat} {cur : Array Value} {l : List S51} (hb : w.heap[g]? = some (.cells cur 51 (0, 0))) (hcell : Cells51 cur l) (hs : Small l) : Go.Sort.HoldsK encP 2 w g 0 (l.map toP).toArray := by
 intro t ht; rw [Go.Sort.size_flatK] at ht
 have hsz : (l.map toP).toArray.size = l.length := by simp
 have hj : t / 2 < l.length := by omega
 refine ⟨?_, blk_frozen hb _⟩; rw [getFlat ht, blk_cell hb, Nat.zero_add]; obtain ⟨j, i, rfl, hi⟩ : ∃ j i, t = j * 2 + i ∧ i < 2 := ⟨t / 2, t % 2, by omega, by omega⟩
 have q1 : (j * 2 + i) / 2 = j := by omega
 have q2 : (j * 2 + i) % 2 = i := by omega
 rw [q1] at hj ⊢; rw [q2]
 have e1 : (l.map toP).toArray[j]! = toP l[j] := by simp [hj]
 rw [e1, encP_ofP, ofP_toP (hs _ (List.getElem_mem hj))]; obtain ⟨h0, h1⟩ := hcell j hj
 rcases (by omega : i = 0 ∨ i = 1) with rfl | rfl
 ·simpa using h0
 ·simpa using h1
set_option maxHeartbeats 1000000 in
theorem sort_shifts (v : Value) (l : List S51) (w : World) (base : Nat) (A : Option Addr) (c : Nat) (hv : v = .slice A l.length c) (hR : Kd.R k51 51 w base (fun _ => True) v l) (hs : Small l) (hb : base ≤ w.heap.size) (hl : l.length ≤ 1000000) :
  Calls Try.prog 85 #[v, .func (.func 86) #[] #[]] w fun e w' => e = .returned (.tuple #[]) ∧ ∃ q : List S51, q.Perm l ∧ q.Pairwise (fun a b => ¬ ltS b a) ∧ Kd.R k51 51 w' base (fun _ => True) v q ∧ w.grownBy w' v.ownBlock := by
 rcases R51_open hR with ⟨rfl, rfl⟩ | ⟨g, cap, cur, rfl, hg, hheap, hsize, hcap, hmax, hcell⟩
 ·have hcon := AnyF.slices_SortFunc_none (P := Try.prog) { Try.sortS with } none 0 (.func (.func 86) #[] #[]) w; refine (show Calls Try.prog 85 _ _ _ from hcon).mono ?_; rintro e w' ⟨rfl, rfl⟩; exact ⟨rfl, [], List.Perm.refl _, List.Pairwise.nil, hR, ⟨rfl, rfl, rfl, Nat.le_refl _, fun _ _ _ => rfl⟩⟩
 ·have eg : ∀ args w, (callFunc 86 args).run Try.prog w = .ok (.enter 86 args) w := enters_of Try.func86 (by kernel_rfl) rfl
  have hsz : (l.map toP).toArray.size = l.length := by simp
  have hlt := blk_lt hheap; have hcon := AnyQ.slices_SortFunc Try.sortS 2 Try.isAgg51 Try.sizeOf51 encP (fun _ => rfl) (fun x v hv => by simp [encP] at hv; rcases hv with rfl | rfl <;> rfl) cmpP swoP 86 #[] g 0 cap (l.map toP).toArray w eg (cmpLaysP g 0 _ w) (holdsP hheap hcell hs) hlt (by rw [hsz]; omega); rw [hsz] at hcon; refine (show Calls Try.prog 85 _ _ _ from hcon).mono ?_; rintro e w' ⟨rfl, d', n, os, hp, ho, rfl⟩
  have hd' : d'.size = l.length := by rw [hp.1, hsz]
  have hperm : d'.toList.Perm (l.map toP) := by
   have h := hp.2.2; rw [show d'.extract 0 l.length = d' by rw [← hd']; simp, show (l.map toP).toArray.extract 0 l.length = (l.map toP).toArray by simp [List.take_of_length_le]] at h
   simpa using h
  have hmap : (l.map toP).map ofP = l := by
   rw [List.map_map]; exact (List.map_congr_left (g := id) fun s hs' => ofP_toP (hs s hs')).trans (by simp)
  have hlq : (d'.toList.map ofP).length = l.length := by simp [hd']
  have hget : (sortWorldK encP 2 w g 0 n d' os).heap[g]? = some (.cells (Sort.putCells id 0 (Go.Sort.flatK encP 2 d') cur) 51 (0, 0)) := by
   unfold sortWorldK
   rw [Sort.heap_grow_old _ _ (by simpa [Go.Sort.putRowK] using hlt)]; simp only [Go.Sort.putRowK, Sort.putRow, Sort.mapBlock, Sort.heap_ahead, Array.getElem?_modify, if_true, hheap, Option.map_some, Sort.onCells]
  refine ⟨rfl, d'.toList.map ofP, hmap ▸ hperm.map ofP, ?_, ?_, ?_⟩
  ·rw [List.pairwise_map, List.pairwise_iff_getElem]; intro i j hi hj hij
   have hi' : i < d'.size := by simpa using hi
   have hj' : j < d'.size := by simpa using hj
   have h := ho i j (Nat.zero_le _) hij (by omega); rw [cmpP_not, getElem!_pos d' i hi', getElem!_pos d' j hj'] at h
   simpa using h
  ·rw [← hlq]; refine R51_of hg hget (by simp [Sort.putCells, hsize]) (by omega) hmax fun j hj => ?_
   have hj' : j < d'.size := by simpa using hj
   have hk : ∀ i, i < 2 → (Sort.putCells id 0 (Go.Sort.flatK encP 2 d') cur)[j * 2 + i]? = some (encP d'[j]!)[i]! := by
    intro i hi
    have hlt2 : j * 2 + i < cur.size := by omega
    simp only [Sort.putCells, Array.getElem?_mapIdx, Array.getElem?_eq_getElem hlt2, Option.map_some]; rw [if_pos ⟨Nat.zero_le _, by rw [Go.Sort.size_flatK]; omega⟩, Nat.sub_zero, getFlat (by omega), show (j * 2 + i) / 2 = j by omega, show (j * 2 + i) % 2 = i by omega]; rfl
   have e : (d'.toList.map ofP)[j] = ofP d'[j]! := by simp [hj']
   rw [e]; exact ⟨by simpa [encP_ofP] using hk 0 (by omega), by simpa [encP_ofP] using hk 1 (by omega)⟩
  ·refine ⟨rfl, rfl, rfl, ?_, fun k hk hne => ?_⟩
   ·simp [sortWorldK, Go.Sort.putRowK, Sort.size_grow]
   ·have hne' : g ≠ k := fun e => hne (by simp [Value.ownBlock, e])
    unfold sortWorldK
    rw [Sort.heap_grow_old _ _ (by simpa [Go.Sort.putRowK] using hk)]; simp only [Go.Sort.putRowK, Sort.putRow, Sort.mapBlock, Sort.heap_ahead, Array.getElem?_modify, if_neg hne']
theorem base_of {α : Type} {d : Kd α} {e : Nat} {w : World} {base : Nat} {ok : Nat → Prop} {v : Value} {xs : List α} (h : d.R e w base ok v xs) : ∀ k, v.ownBlock = some k → base ≤ k := by
 intro k hk
 rcases Kd.R_base2 h with h0 | ⟨k', h1, h2⟩
 ·rw [h0] at hk; cases hk
 ·rw [h1] at hk; injection hk with hk; omega
theorem R51_form {w : World} {base n c : Nat} {ok : Nat → Prop} {A : Option Addr} {q : List S51} (h : Kd.R k51 51 w base ok (.slice A n c) q) (hn : 0 < n) : ∃ g, A = some ⟨g, 0, none⟩ ∧ ∀ i, i < n → w.cell? ⟨g, i * 2, none⟩ = some (.int .i64 (rd_T51 q i).f0) ∧ w.cell? ⟨g, i * 2 + 1, none⟩ = some (.int .i64 (rd_T51 q i).f1) := by
 obtain ⟨hl, hc, hC⟩ := Kd.R_reads' h; obtain ⟨_, inner, ho, _⟩ := h
 rcases ho.2 with ⟨_, h0⟩ | ⟨g, cap, cur, e, hg, _⟩
 ·omega
 ·injection e with e1 e2 e3
  subst e1; refine ⟨g, rfl, fun i hi => ?_⟩; obtain ⟨ad, e, h0, h1⟩ := at_T51 hC (i : Int) (by omega) (by omega)
  injection e with e
  subst e; rw [Int.toNat_natCast, add_plain] at h0 h1; exact ⟨h0, h1⟩
theorem neighbours {q : List S51} (h : q.Pairwise ltS) {i : Nat} (hi : i + 1 < q.length) : ¬ ((rd_T51 q ((i + 1 : Nat) : Int)).f0 = (rd_T51 q (i : Int)).f0 ∧ (rd_T51 q ((i + 1 : Nat) : Int)).f1 = (rd_T51 q (i : Int)).f1) := by
 have h2 := List.pairwise_iff_getElem.1 h i (i + 1) (by omega) hi (by omega)
 unfold rd_T51
 rw [Int.toNat_natCast, Int.toNat_natCast, List.getD_eq_getElem?_getD, List.getD_eq_getElem?_getD, List.getElem?_eq_getElem hi, List.getElem?_eq_getElem (by omega)]; simp only [Option.getD_some]
 unfold ltS at h2
 omega
theorem small_shiftsR {W H D : Int} {K O r : List Int} {l : List Bool} {full : Bool} (hs : r.Pairwise (· < ·)) (hn : r.length ≤ 32) : Small (shiftsR W H D K O r l full r.length) := by
 intro s h; obtain ⟨i, hi, _, h⟩ := (mem_shiftsR hs (by omega) _).1 h; obtain ⟨d, _, h⟩ := (mem_shiftsI hs (by omega) 6).1 h; obtain ⟨k, hk, _, _, rfl⟩ := (mem_shiftD hs (by omega)).1 h; dsimp only
 omega
theorem shiftsI_succ {W H D : Int} {K O r : List Int} {l : List Bool} {full : Bool} (i d : Nat) : shiftsI W H D K O r l full i (d + 1) = shiftsI W H D K O r l full i d ++ shiftD W H D K O r l full i d := rfl
set_option maxHeartbeats 4000000 in
set_option maxRecDepth 100000 in
theorem shifts_walk (a0_0 : Int) (a0_1 : Int) (a0_2 : Int) (A0_3 : Option Addr) (c0_3 : Nat) (l0_3 : List Int) (A0_4 : Option Addr) (c0_4 : Nat) (l0_4 : List Int) (A1 : Option Addr) (c1 : Nat) (l1 : List Int) (A2_0 : Option Addr) (c2_0 : Nat) (l2_0 : List Bool) (a2_1 : Int) (a3 : Bool) (w : World) (hr0_3 : Kd.C (Kd.int .i64) w A0_3 l0_3.length l0_3) (hc0_3 : l0_3.length ≤ c0_3) (hr0_4 : Kd.C (Kd.int .i64) w A0_4 l0_4.length l0_4) (hc0_4 : l0_4.length ≤ c0_4) (hr1 : Kd.C (Kd.int .i64) w A1 l1.length l1) (hc1 : l1.length ≤ c1) (hr2_0 : Kd.C Kd.bool w A2_0 l2_0.length l2_0) (hc2_0 : l2_0.length ≤ c2_0) (hf : FloorOk a0_0 a0_1 a0_2 l0_3 l0_4) (hs : l1.Pairwise (· < ·)) (hl1 : l1.length ≤ 32) (hl2 : l1.length ≤ l2_0.length) (hl3 : l2_0.length ≤ 1000000) (hne : 0 < l1.length) :
  Calls Try.prog 65 #[.agg #[.int .i64 a0_0, .int .i64 a0_1, .int .i64 a0_2, .slice A0_3 l0_3.length c0_3, .slice A0_4 l0_4.length c0_4], .slice A1 l1.length c1, .agg #[.slice A2_0 l2_0.length c2_0, .int .i64 a2_1], .bool a3] w fun e w' => ∃ v0_ : Value, e = .returned (v0_) ∧ Kd.R k51 51 w' w.heap.size (fun _ => True) v0_ (shiftsN a0_0 a0_1 a0_2 l0_3 l0_4 l1 l2_0 a3) ∧ Below w.heap.size w w' := by
 have hu24 := Try.underlying24; have hu27 := Try.underlying27; have hu51 := Try.underlying51; have HB := ak (Below.refl w.heap.size w); have HR3 := ak hr0_3; have HC3 := ak hc0_3; have HR4 := ak hr0_4; have HC4 := ak hc0_4; have HR1 := ak hr1; have HC1 := ak hc1; have HR2 := ak hr2_0; have HC2 := ak hc2_0; have HF := ak hf; have HS := ak hs; have H1 := ak hl1; have H2 := ak hl2; have H3 := ak hl3; obtain ⟨ar, rfl, hcr⟩ := int_cells hr1 hne; obtain ⟨al, rfl, hcl⟩ := bool_cells hr2_0 (by omega); have HCR := ak hcr; have HCL := ak hcl; clear hr0_3 hc0_3 hr0_4 hc0_4 hr1 hc1 hr2_0 hc2_0 hf hs hl1 hl2 hl3 hne hcr hcl
 go_enter Try.func65, Try.ntmps65
 go_upto_region 3 with (first | ((with_reducible refine gate_dst (N := 4) rfl ?_); refine box_event ?hg (N := 4) ?hd (cs := #[.int .i64 a0_0, .int .i64 a0_1, .int .i64 a0_2, .slice A0_3 l0_3.length c0_3, .slice A0_4 l0_4.length c0_4]) (t := 24) ?hr ?_; (case hd => rfl); (case hg => rfl); (case hr => first | (go_simp; done) | (go_simp; rfl)); intro g4 hg w4 hbox hb; have GE4 := ak (show w.heap.size ≤ g4 by have := HB.1.size; omega); have n_HB := ak (below_step HB.1 hb); clear HB; have HB := n_HB; clear n_HB; have BK4 := ak hbox; clear hbox hb hg) | ((with_reducible refine gate_dst (N := 6) rfl ?_); refine box_event ?hg (N := 6) ?hd (cs := #[.slice (some al) l2_0.length c2_0, .int .i64 a2_1]) (t := 27) ?hr ?_; (case hd => rfl); (case hg => rfl); (case hr => first | (go_simp; done) | (go_simp; rfl)); intro g6 hg w6 hbox hb; have GE6 := ak (show w.heap.size ≤ g6 by have := HB.1.size; omega); have NE6_4 := ak (show g6 ≠ g4 by have := blk_lt BK4.1; omega); have n_BK4 := ak (blk_below BK4.1 hb); have n_HB := ak (below_step HB.1 hb); clear BK4; clear HB; have BK4 := n_BK4; have HB := n_HB; clear n_BK4 n_HB; have BK6 := ak hbox; clear hbox hb hg))
 go_loopg [9, 19] l1.length (fun kq v9 v19 w' => ∃ (i : Nat), v19 = .int .i64 (i : Int) ∧ Aside0 (kq + i = l1.length) ∧ Aside0 (Kd.R k51 51 w' w.heap.size (fun _ => True) v9 (shiftsR a0_0 a0_1 a0_2 l0_3 l0_4 l1 l2_0 a3 i)) ∧ Aside0 (w'.heap[g4]? = some (.cells #[.int .i64 a0_0, .int .i64 a0_1, .int .i64 a0_2, .slice A0_3 l0_3.length c0_3, .slice A0_4 l0_4.length c0_4] 24 (0, 0))) ∧ Aside0 (w'.heap[g6]? = some (.cells #[.slice (some al) l2_0.length c2_0, .int .i64 a2_1] 27 (0, 0))) ∧ Aside0 (Below w.heap.size w w'))
 case atStart => exact ⟨0, rfl, ⟨by omega⟩, ⟨Kd.R_nil _ _ _ _ _⟩, BK4, BK6, HB⟩
 case round =>
  clear BK4 BK6 HB; obtain ⟨i, rfl, HI, HO, BK4, BK6, HB⟩ := hrel
  by_cases hi : i < l1.length
  ·have y1 : decide ((i : Int) < (l1.length : Int)) = true := decide_eq_true (by omega)
   have y2 : (i : Int) < (l1.length : Int) := by omega
   have y4 : (i : Int) ≤ 32 := by have := H1.1; omega
   have y3 : (i : Int) < (l2_0.length : Int) := by have := H2.1; omega
   have hcr := (HB.1.cell (World.block_lt_of_cell? w _ (HCR.1 i hi))).trans (HCR.1 i hi); have hcl := (HB.1.cell (World.block_lt_of_cell? w _ (HCL.1 i (by omega)))).trans (HCL.1 i (by omega)); obtain ⟨cv, hcv⟩ : ∃ cv, cv = l1.getD i 0 := ⟨_, rfl⟩; obtain ⟨bv, hbv⟩ : ∃ bv, bv = l2_0.getD i false := ⟨_, rfl⟩; rw [← hcv] at hcr; rw [← hbv] at hcl; have HCV := ak hcv; have HBV := ak hbv; clear hcv hbv; have e40 := blk_cell BK4.1 0; have e41 := blk_cell BK4.1 1; have e42 := blk_cell BK4.1 2; have e43 := blk_cell BK4.1 3; have e44 := blk_cell BK4.1 4; have e60 := blk_cell BK6.1 0; have e61 := blk_cell BK6.1 1
   try simp at e40 e41 e42 e43 e44 e60 e61
   by_cases hbf : bv = a3
   ·have z1 : (bv == a3) = true := beq_iff_eq.2 hbf; have HBF := ak hbf; clear hbf
    go_wp2_with fail
    go_loopg [9, 31] 6 (fun kr v9 v31 w' => ∃ (d : Nat), v31 = .int .i64 (d : Int) ∧ Aside0 (kr + d = 6) ∧ Aside0 (Kd.R k51 51 w' w.heap.size (fun _ => True) v9 (shiftsR a0_0 a0_1 a0_2 l0_3 l0_4 l1 l2_0 a3 i ++ shiftsI a0_0 a0_1 a0_2 l0_3 l0_4 l1 l2_0 a3 i d)) ∧ Aside0 (w'.heap[g4]? = some (.cells #[.int .i64 a0_0, .int .i64 a0_1, .int .i64 a0_2, .slice A0_3 l0_3.length c0_3, .slice A0_4 l0_4.length c0_4] 24 (0, 0))) ∧ Aside0 (w'.heap[g6]? = some (.cells #[.slice (some al) l2_0.length c2_0, .int .i64 a2_1] 27 (0, 0))) ∧ Aside0 (Below w.heap.size w w'))
    case atStart => exact ⟨0, rfl, ⟨rfl⟩, ⟨by rw [shiftsI, List.append_nil]; exact HO.1⟩, BK4, BK6, HB⟩
    case round =>
     clear HO BK4 BK6 HB e40 e41 e42 e43 e44 e60 e61 hcr hcl; obtain ⟨d, rfl, HK, HO, BK4, BK6, HB⟩ := hrel
     by_cases hd : d < 6
     ·have y1 : decide ((d : Int) < 6) = true := decide_eq_true (by omega)
      have y2 : (d : Int) < 6 := by omega
      have HNX := ak (HF.1.next_f cv (d : Int)); obtain ⟨tt, ok, hnx⟩ : ∃ t o, nx a0_0 a0_1 a0_2 l0_3 l0_4 cv (d : Int) = (t, o) := ⟨_, _, rfl⟩; rw [hnx] at HNX; have HNE := ak hnx; clear hnx; have e40 := blk_cell BK4.1 0; have e41 := blk_cell BK4.1 1; have e42 := blk_cell BK4.1 2; have e43 := blk_cell BK4.1 3; have e44 := blk_cell BK4.1 4; have e60 := blk_cell BK6.1 0; have e61 := blk_cell BK6.1 1
      try simp at e40 e41 e42 e43 e44 e60 e61
      obtain ⟨q, hq⟩ : ∃ q, q = shiftsR a0_0 a0_1 a0_2 l0_3 l0_4 l1 l2_0 a3 i ++ shiftsI a0_0 a0_1 a0_2 l0_3 l0_4 l1 l2_0 a3 i d := ⟨_, rfl⟩; rw [← hq] at HO
      have HQL := ak (show q.length ≤ 1000 by
       rw [hq, List.length_append]; have h1 := shiftsR_len (W := a0_0) (H := a0_1) (D := a0_2) (K := l0_3) (O := l0_4) (r := l1) (l := l2_0) (full := a3) i; have h2 := shiftsI_len (W := a0_0) (H := a0_1) (D := a0_2) (K := l0_3) (O := l0_4) (r := l1) (l := l2_0) (full := a3) i d; have := H1.1
       omega)
      have HQ := ak hq; clear hq
      cases ok with
      | false =>
       have HD := ak (show shiftD a0_0 a0_1 a0_2 l0_3 l0_4 l1 l2_0 a3 i d = [] by
        unfold shiftD
        rw [← HCV.1, HNE.1, if_neg (by simp)])
       go_wp2_with ((go_at_call 78; refine (floor_Next.calls 1 _ _ _ _ _ l0_3 _ _ l0_4 _ _ _ _ _ (Kd.C_below HR3.1 HB.1) HC3.1 (Kd.C_below HR4.1 HB.1) HC4.1 HNX.1).mono ?_; rintro e w78 ⟨rfl, hb⟩; have n_HO := ak (Kd.R_below HO.1 hb); have n_BK4 := ak (blk_below BK4.1 hb); have n_BK6 := ak (blk_below BK6.1 hb); have n_HB := ak (below_step HB.1 hb); clear BK4; clear BK6; clear HB; have BK4 := n_BK4; have BK6 := n_BK6; have HB := n_HB; clear n_BK4 n_BK6 n_HB; clear HO; have HO := n_HO; clear n_HO; clear hb; clear e40 e41 e42 e43 e44 e60 e61; have e40 := blk_cell BK4.1 0; have e41 := blk_cell BK4.1 1; have e42 := blk_cell BK4.1 2; have e43 := blk_cell BK4.1 3; have e44 := blk_cell BK4.1 4; have e60 := blk_cell BK6.1 0; have e61 := blk_cell BK6.1 1; try simp at e40 e41 e42 e43 e44 e60 e61; ))
       go_roundg (gk - 1)
       case measure => have := HK.1; omega
       case rel => exact ⟨d + 1, by first | rfl | simp, ⟨by have := HK.1; omega⟩, ⟨by have h := HO.1; rw [HQ.1] at h; rw [shiftsI_succ, HD.1, List.append_nil]; exact h⟩, BK4, BK6, HB⟩
      | true =>
       obtain ⟨hbs, kk, hk1, hk2⟩ := bs_f tt HS.1 (by have := H1.1; omega); rw [hk1] at hbs; have HBS := ak hbs; have HK1 := ak hk1; clear hbs hk1 hk2
       by_cases hfo : kk < l1.length ∧ l1.getD kk 0 = tt
       ·rw [decide_eq_true hfo] at HBS HK1; have HKK := ak (show kk < l2_0.length by have := H2.1; omega)
        have y5 : (kk : Int) < (l2_0.length : Int) := by have := H2.1; omega
        obtain ⟨bk, hbk⟩ : ∃ bk, bk = l2_0.getD kk false := ⟨_, rfl⟩; have HBK := ak hbk; clear hbk hfo
        by_cases hbe : bk = a3
        ·have z2 : (bk == a3) = true := beq_iff_eq.2 hbe
         have HD := ak (show shiftD a0_0 a0_1 a0_2 l0_3 l0_4 l1 l2_0 a3 i d = [] by
          unfold shiftD
          rw [← HCV.1, HNE.1]; dsimp only; rw [HK1.1]; dsimp only
          rw [Int.toNat_natCast, ← HBK.1, if_neg (fun h => h.2.2 hbe)])
         clear hbe
         go_wp2_with (first | (go_at_call 78; refine (floor_Next.calls 1 _ _ _ _ _ l0_3 _ _ l0_4 _ _ _ _ _ (Kd.C_below HR3.1 HB.1) HC3.1 (Kd.C_below HR4.1 HB.1) HC4.1 HNX.1).mono ?_; rintro e w78 ⟨rfl, hb⟩; have n_HO := ak (Kd.R_below HO.1 hb); have n_BK4 := ak (blk_below BK4.1 hb); have n_BK6 := ak (blk_below BK6.1 hb); have n_HB := ak (below_step HB.1 hb); clear BK4; clear BK6; clear HB; have BK4 := n_BK4; have BK6 := n_BK6; have HB := n_HB; clear n_BK4 n_BK6 n_HB; clear HO; have HO := n_HO; clear n_HO; clear hb; clear e40 e41 e42 e43 e44 e60 e61; have e40 := blk_cell BK4.1 0; have e41 := blk_cell BK4.1 1; have e42 := blk_cell BK4.1 2; have e43 := blk_cell BK4.1 3; have e44 := blk_cell BK4.1 4; have e60 := blk_cell BK6.1 0; have e61 := blk_cell BK6.1 1; try simp at e40 e41 e42 e43 e44 e60 e61; ) | (go_at_call 84; refine (slices_BinarySearch_int_int.calls _ _ _ l1 _ _ _ _ (Kd.C_below HR1.1 HB.1) HC1.1 HBS.1).mono ?_; rintro e w84 ⟨rfl, hd⟩; have hb := hd.below; clear hd; have n_HO := ak (Kd.R_below HO.1 hb); have n_BK4 := ak (blk_below BK4.1 hb); have n_BK6 := ak (blk_below BK6.1 hb); have n_HB := ak (below_step HB.1 hb); clear BK4; clear BK6; clear HB; have BK4 := n_BK4; have BK6 := n_BK6; have HB := n_HB; clear n_BK4 n_BK6 n_HB; clear HO; have HO := n_HO; clear n_HO; clear hb; clear e40 e41 e42 e43 e44 e60 e61; have e40 := blk_cell BK4.1 0; have e41 := blk_cell BK4.1 1; have e42 := blk_cell BK4.1 2; have e43 := blk_cell BK4.1 3; have e44 := blk_cell BK4.1 4; have e60 := blk_cell BK6.1 0; have e61 := blk_cell BK6.1 1; try simp at e40 e41 e42 e43 e44 e60 e61; have hck := (HB.1.cell (World.block_lt_of_cell? w _ (HCL.1 kk HKK.1))).trans (HCL.1 kk HKK.1); rw [← HBK.1] at hck))
         go_roundg (gk - 1)
         case measure => have := HK.1; omega
         case rel => exact ⟨d + 1, by first | rfl | simp, ⟨by have := HK.1; omega⟩, ⟨by have h := HO.1; rw [HQ.1] at h; rw [shiftsI_succ, HD.1, List.append_nil]; exact h⟩, BK4, BK6, HB⟩
        ·have z2 : (bk == a3) = false := beq_eq_false_iff_ne.2 hbe
         have HD := ak (show shiftD a0_0 a0_1 a0_2 l0_3 l0_4 l1 l2_0 a3 i d = [⟨(i : Int), (kk : Int)⟩] by
          unfold shiftD
          rw [← HCV.1, HNE.1]; dsimp only; rw [HK1.1]; dsimp only
          rw [Int.toNat_natCast, ← HBK.1, if_pos ⟨rfl, rfl, hbe⟩])
         clear hbe
         go_wp2_with (first | (go_at_call 78; refine (floor_Next.calls 1 _ _ _ _ _ l0_3 _ _ l0_4 _ _ _ _ _ (Kd.C_below HR3.1 HB.1) HC3.1 (Kd.C_below HR4.1 HB.1) HC4.1 HNX.1).mono ?_; rintro e w78 ⟨rfl, hb⟩; have n_HO := ak (Kd.R_below HO.1 hb); have n_BK4 := ak (blk_below BK4.1 hb); have n_BK6 := ak (blk_below BK6.1 hb); have n_HB := ak (below_step HB.1 hb); clear BK4; clear BK6; clear HB; have BK4 := n_BK4; have BK6 := n_BK6; have HB := n_HB; clear n_BK4 n_BK6 n_HB; clear HO; have HO := n_HO; clear n_HO; clear hb; clear e40 e41 e42 e43 e44 e60 e61; have e40 := blk_cell BK4.1 0; have e41 := blk_cell BK4.1 1; have e42 := blk_cell BK4.1 2; have e43 := blk_cell BK4.1 3; have e44 := blk_cell BK4.1 4; have e60 := blk_cell BK6.1 0; have e61 := blk_cell BK6.1 1; try simp at e40 e41 e42 e43 e44 e60 e61; ) | (go_at_call 84; refine (slices_BinarySearch_int_int.calls _ _ _ l1 _ _ _ _ (Kd.C_below HR1.1 HB.1) HC1.1 HBS.1).mono ?_; rintro e w84 ⟨rfl, hd⟩; have hb := hd.below; clear hd; have n_HO := ak (Kd.R_below HO.1 hb); have n_BK4 := ak (blk_below BK4.1 hb); have n_BK6 := ak (blk_below BK6.1 hb); have n_HB := ak (below_step HB.1 hb); clear BK4; clear BK6; clear HB; have BK4 := n_BK4; have BK6 := n_BK6; have HB := n_HB; clear n_BK4 n_BK6 n_HB; clear HO; have HO := n_HO; clear n_HO; clear hb; clear e40 e41 e42 e43 e44 e60 e61; have e40 := blk_cell BK4.1 0; have e41 := blk_cell BK4.1 1; have e42 := blk_cell BK4.1 2; have e43 := blk_cell BK4.1 3; have e44 := blk_cell BK4.1 4; have e60 := blk_cell BK6.1 0; have e61 := blk_cell BK6.1 1; try simp at e40 e41 e42 e43 e44 e60 e61; have hck := (HB.1.cell (World.block_lt_of_cell? w _ (HCL.1 kk HKK.1))).trans (HCL.1 kk HKK.1); rw [← HBK.1] at hck) | (at_builtin; refine Kd.R_append k51 (w0 := w) w.heap.size rfl (.tmp 59) (.tmp 63) 35 51 (.agg #[(.int .i64 0), (.int .i64 0)]) 16 rfl Try.underlying35 info51 rfl (by decide) (by omega) u9 q (⟨(i : Int), (kk : Int)⟩ : S51) [.int .i64 (i : Int), .int .i64 (kk : Int)] (fun _ => True) (fun _ => False) rfl rfl (k51_mkM _ _ _ (⟨(i : Int), (kk : Int)⟩ : S51)) (fun _ hk => hk.elim) (fun _ _ => trivial) HO.1 HB.1 HB.1.size (by have := HQL.1; omega) ?_; intro v64 w64 ho hb hg hat; have n_BK4 := ak (blk_grown BK4.1 hg (Kd.R_ne HO.1 BK4.1 (by decide))); have n_BK6 := ak (blk_grown BK6.1 hg (Kd.R_ne HO.1 BK6.1 (by decide))); have n_HO := ak ho; have n_HB := ak hb; clear BK4 BK6 HO HB; have BK4 := n_BK4; have BK6 := n_BK6; have HO := n_HO; have HB := n_HB; clear n_BK4 n_BK6 n_HO n_HB ho hb hg hat; clear e40 e41 e42 e43 e44 e60 e61))
         go_roundg (gk - 1)
         case measure => have := HK.1; omega
         case rel => exact ⟨d + 1, by first | rfl | simp, ⟨by have := HK.1; omega⟩, ⟨by have h := HO.1; rw [HQ.1, List.append_assoc] at h; rw [shiftsI_succ, HD.1]; exact h⟩, BK4, BK6, HB⟩
       ·rw [decide_eq_false hfo] at HBS HK1
        have HD := ak (show shiftD a0_0 a0_1 a0_2 l0_3 l0_4 l1 l2_0 a3 i d = [] by
         unfold shiftD
         rw [← HCV.1, HNE.1]; dsimp only; rw [HK1.1]
         rw [if_neg (by simp)])
        clear hfo
        go_wp2_with (first | (go_at_call 78; refine (floor_Next.calls 1 _ _ _ _ _ l0_3 _ _ l0_4 _ _ _ _ _ (Kd.C_below HR3.1 HB.1) HC3.1 (Kd.C_below HR4.1 HB.1) HC4.1 HNX.1).mono ?_; rintro e w78 ⟨rfl, hb⟩; have n_HO := ak (Kd.R_below HO.1 hb); have n_BK4 := ak (blk_below BK4.1 hb); have n_BK6 := ak (blk_below BK6.1 hb); have n_HB := ak (below_step HB.1 hb); clear BK4; clear BK6; clear HB; have BK4 := n_BK4; have BK6 := n_BK6; have HB := n_HB; clear n_BK4 n_BK6 n_HB; clear HO; have HO := n_HO; clear n_HO; clear hb; clear e40 e41 e42 e43 e44 e60 e61; have e40 := blk_cell BK4.1 0; have e41 := blk_cell BK4.1 1; have e42 := blk_cell BK4.1 2; have e43 := blk_cell BK4.1 3; have e44 := blk_cell BK4.1 4; have e60 := blk_cell BK6.1 0; have e61 := blk_cell BK6.1 1; try simp at e40 e41 e42 e43 e44 e60 e61; ) | (go_at_call 84; refine (slices_BinarySearch_int_int.calls _ _ _ l1 _ _ _ _ (Kd.C_below HR1.1 HB.1) HC1.1 HBS.1).mono ?_; rintro e w84 ⟨rfl, hd⟩; have hb := hd.below; clear hd; have n_HO := ak (Kd.R_below HO.1 hb); have n_BK4 := ak (blk_below BK4.1 hb); have n_BK6 := ak (blk_below BK6.1 hb); have n_HB := ak (below_step HB.1 hb); clear BK4; clear BK6; clear HB; have BK4 := n_BK4; have BK6 := n_BK6; have HB := n_HB; clear n_BK4 n_BK6 n_HB; clear HO; have HO := n_HO; clear n_HO; clear hb; clear e40 e41 e42 e43 e44 e60 e61; have e40 := blk_cell BK4.1 0; have e41 := blk_cell BK4.1 1; have e42 := blk_cell BK4.1 2; have e43 := blk_cell BK4.1 3; have e44 := blk_cell BK4.1 4; have e60 := blk_cell BK6.1 0; have e61 := blk_cell BK6.1 1; try simp at e40 e41 e42 e43 e44 e60 e61; ))
        go_roundg (gk - 1)
        case measure => have := HK.1; omega
        case rel => exact ⟨d + 1, by first | rfl | simp, ⟨by have := HK.1; omega⟩, ⟨by have h := HO.1; rw [HQ.1] at h; rw [shiftsI_succ, HD.1, List.append_nil]; exact h⟩, BK4, BK6, HB⟩
     ·have hd6 : d = 6 := by have := HK.1; omega
      have y1 : decide ((d : Int) < 6) = false := decide_eq_false (by omega)
      have HO2 := ak (show Kd.R k51 51 wr w.heap.size (fun _ => True) u9 (shiftsR a0_0 a0_1 a0_2 l0_3 l0_4 l1 l2_0 a3 (i + 1)) by
       have h := HO.1; rw [hd6] at h; rw [shiftsR, if_pos (by rw [← HBV.1, HBF.1])]
       exact h)
      clear hd6
      go_wp2
      go_roundg (l1.length - i - 1)
      case measure => have := HI.1; omega
      case rel => exact ⟨i + 1, by first | rfl | simp, ⟨by have := HI.1; omega⟩, HO2, BK4, BK6, HB⟩
   ·have z1 : (bv == a3) = false := beq_eq_false_iff_ne.2 hbf
    have HO2 := ak (show Kd.R k51 51 wr w.heap.size (fun _ => True) u9 (shiftsR a0_0 a0_1 a0_2 l0_3 l0_4 l1 l2_0 a3 (i + 1)) by
     have h := HO.1; rw [shiftsR, if_neg (by rw [← HBV.1]; exact hbf), List.append_nil]
     exact h)
    clear hbf
    go_wp2
    go_roundg (gk - 1)
    case measure => have := HI.1; omega
    case rel => exact ⟨i + 1, by first | rfl | simp, ⟨by have := HI.1; omega⟩, HO2, BK4, BK6, HB⟩
  ·have hie : i = l1.length := by have := HI.1; omega
   have y1 : decide ((i : Int) < (l1.length : Int)) = false := decide_eq_false (by omega); rw [hie] at HO
   have y2 : (l1.length : Int) ≤ (i : Int) := by omega
   clear hie hi; obtain ⟨A9, c9, hu9⟩ := Kd.R_slice HO.1; have HLN := ak (shiftsR_len (W := a0_0) (H := a0_1) (D := a0_2) (K := l0_3) (O := l0_4) (r := l1) (l := l2_0) (full := a3) l1.length); have HSM := ak (small_shiftsR (W := a0_0) (H := a0_1) (D := a0_2) (K := l0_3) (O := l0_4) (r := l1) (l := l2_0) (full := a3) HS.1 H1.1); have HPS := ak (fun (q : List S51) => shifts_sorted (W := a0_0) (H := a0_1) (D := a0_2) (K := l0_3) (O := l0_4) (r := l1) (l := l2_0) (full := a3) (q := q) HF.1 HS.1 (by have := H1.1; omega)); obtain ⟨raw, hraw⟩ : ∃ q, q = shiftsR a0_0 a0_1 a0_2 l0_3 l0_4 l1 l2_0 a3 l1.length := ⟨_, rfl⟩; rw [← hraw] at HO HLN HSM HPS hu9; clear hraw; subst hu9
   go_wp2_with (first | (go_at_call 85; refine (sort_shifts _ raw _ w.heap.size A9 c9 rfl HO.1 HSM.1 HB.1.size (by have := HLN.1; have := H1.1; omega)).mono ?_; rintro e w85 ⟨rfl, q, hp, hq, hR, hg⟩; have HQ := ak (HPS.1 q hp hq); have HLQ := ak hp.length_eq; have HB5 := ak (pw_below_grown HB.1 _ HB.1.size hg (base_of HO.1)); have HRQ := ak hR; clear hp hq hR hg) | (go_at_call 87; refine (compact_same A9 raw.length c9 (fun i => (rd_T51 q i).f0) (fun i => (rd_T51 q i).f1) _ (by have := HLN.1; have := H1.1; omega) (fun hn => R51_form HRQ.1 hn) (fun i hi => neighbours HQ.1.2 (by rw [HLQ.1]; exact hi))).mono ?_; rintro e w87 ⟨rfl, m, rfl⟩))
   go_ret
   exact ⟨_, rfl, by rw [← HQ.1.1]; exact Kd.R_drewN HRQ.1 _, pw_below_drewN HB5.1 _⟩
instance {W H D : Int} {K O : List Int} : Decidable (FloorOk W H D K O) :=
 decidable_of_iff (1 ≤ W ∧ W ≤ 4096 ∧ 1 ≤ H ∧ H ≤ 4096 ∧ 1 ≤ D ∧ D ≤ 4 ∧ W * H * D ≤ 4096 ∧ (K.length : Int) = W * H * D ∧ (O.length : Int) = W * H * D) ⟨fun ⟨a, b, c, d, e, f, g, h, i⟩ => ⟨a, b, c, d, e, f, g, h, i⟩, fun h => ⟨h.w1, h.w2, h.h1, h.h2, h.d1, h.d2, h.sz, h.kl, h.ol⟩⟩
def okS (W H D : Int) (K O : List Int) (r : List Int) (l : List Bool) : Prop := FloorOk W H D K O ∧ r.Pairwise (· < ·) ∧ 0 < r.length ∧ r.length ≤ 32 ∧ r.length ≤ l.length ∧ l.length ≤ 1000000
instance {W H D : Int} {K O : List Int} {r : List Int} {l : List Bool} : Decidable (okS W H D K O r l) := by unfold okS; infer_instance
def layout_shifts.f (W H D : Int) (K O : List Int) (r : List Int) (l : List Bool) (t : Int) (full : Bool) : Option (List S51) := if okS W H D K O r l then some (shiftsN W H D K O r l full) else none
theorem layout_shifts.calls (a0_0 : Int) (a0_1 : Int) (a0_2 : Int) (A0_3 : Option Addr) (c0_3 : Nat) (l0_3 : List Int) (A0_4 : Option Addr) (c0_4 : Nat) (l0_4 : List Int) (A1 : Option Addr) (c1 : Nat) (l1 : List Int) (A2_0 : Option Addr) (c2_0 : Nat) (l2_0 : List Bool) (a2_1 : Int) (a3 : Bool) (r : List S51) (w : World) (hr0_3 : Kd.C (Kd.int .i64) w A0_3 l0_3.length l0_3) (hc0_3 : l0_3.length ≤ c0_3) (hr0_4 : Kd.C (Kd.int .i64) w A0_4 l0_4.length l0_4) (hc0_4 : l0_4.length ≤ c0_4) (hr1 : Kd.C (Kd.int .i64) w A1 l1.length l1) (hc1 : l1.length ≤ c1) (hr2_0 : Kd.C Kd.bool w A2_0 l2_0.length l2_0) (hc2_0 : l2_0.length ≤ c2_0) (h : layout_shifts.f a0_0 a0_1 a0_2 l0_3 l0_4 l1 l2_0 a2_1 a3 = some r) :
  Calls Try.prog 65 #[.agg #[.int .i64 a0_0, .int .i64 a0_1, .int .i64 a0_2, .slice A0_3 l0_3.length c0_3, .slice A0_4 l0_4.length c0_4], .slice A1 l1.length c1, .agg #[.slice A2_0 l2_0.length c2_0, .int .i64 a2_1], .bool a3] w fun e w' => ∃ v0_ : Value, e = .returned (v0_) ∧ Kd.R k51 51 w' w.heap.size (fun _ => True) v0_ r ∧ Below w.heap.size w w' := by
 unfold layout_shifts.f at h
 split at h
 ·rename_i hk
  injection h with h
  subst h; obtain ⟨hf, hs, hne, hl1, hl2, hl3⟩ := hk; exact shifts_walk a0_0 a0_1 a0_2 A0_3 c0_3 l0_3 A0_4 c0_4 l0_4 A1 c1 l1 A2_0 c2_0 l2_0 a2_1 a3 w hr0_3 hc0_3 hr0_4 hc0_4 hr1 hc1 hr2_0 hc2_0 hf hs hl1 hl2 hl3 hne
 ·cases h
end Go.Proofs.Ytogmjilaiopjmaa.P
end
section
namespace Go.Proofs.Ytogmjilaiopjmaa.P
open Go.RowKit Go.Proofs.YtogmjilaiopjmaaW.PrintWords Go.Proofs.YtogmjilaiopjmaaW.PrintLast Go.Proofs.YtogmjilaiopjmaaW.PrintMore
structure TS (w0 : World) (gO gQ gA n : Nat) (w : World) (qv : Value) (out q : List Int) : Prop where
 below : Below w0.heap.size w0 w
 bO : w.heap[gO]? = some (.cells #[.slice (some ⟨gA, 0, none⟩) n n] 22 (0, 0))
 bQ : w.heap[gQ]? = some (.cells #[qv] 22 (0, 0))
 bA : IntBlk w gA out
 ln : out.length = n
 ge : w0.heap.size ≤ gA ∧ w0.heap.size ≤ gQ
 ne : gO ≠ gQ
 hq : Kd.Q (Kd.int .i64) 3 w w0.heap.size (fun k => k ≠ gA) qv q
def Kept3 (gQ : Nat) (w w' : World) : Prop := ∀ k cs t, w.heap[k]? = some (.cells cs t (0, 0)) → t ≠ 3 → k ≠ gQ → w'.heap[k]? = some (.cells cs t (0, 0))
theorem Kept3.refl (gQ : Nat) (w : World) : Kept3 gQ w w := fun _ _ _ h _ _ => h
theorem Kept3.trans {gQ : Nat} {w w1 w2 : World} (h : Kept3 gQ w w1) (h' : Kept3 gQ w1 w2) : Kept3 gQ w w2 := fun k cs t hk ht hq => h' k cs t (h k cs t hk ht hq) ht hq
section
variable {w0 w w1 : World} {gO gQ gA n : Nat} {qv : Value} {out q : List Int}
theorem TS.le (h : TS w0 gO gQ gA n w qv out q) : w0.heap.size ≤ w.heap.size := h.below.size
theorem TS.step (h : TS w0 gO gQ gA n w qv out q) (hb : Below w.heap.size w w1) : TS w0 gO gQ gA n w1 qv out q :=
 ⟨below_step h.below hb, blk_below h.bO hb, blk_below h.bQ hb, RowBlk.below h.bA hb, h.ln, h.ge, h.ne, Kd.Q_below h.hq hb⟩
theorem TS.nOA (h : TS w0 gO gQ gA n w qv out q) : gO ≠ gA := blk_ne h.bO h.bA (by decide)
theorem TS.nQA (h : TS w0 gO gQ gA n w qv out q) : gQ ≠ gA := blk_ne h.bQ h.bA (by decide)
theorem TS.put (h : TS w0 gO gQ gA n w qv out q) (i : Nat) (v : Int) : TS w0 gO gQ gA n (w.setCell ⟨gA, i, none⟩ (.int .i64 v)) qv (out.set i v) q :=
 ⟨below_set h.below h.ge.1, blk_far h.bO h.nOA _, blk_far h.bQ h.nQA _, RowBlk.set h.bA i v, by rw [List.length_set]; exact h.ln, h.ge, h.ne, Kd.Q_far h.hq (fun k hk => hk) _⟩
theorem Kept3.put (h : TS w0 gO gQ gA n w qv out q) (i : Nat) (u : Value) : Kept3 gQ w (w.setCell ⟨gA, i, none⟩ u) := fun k cs t hk ht hq => blk_far hk (show k ≠ (⟨gA, i, none⟩ : Addr).block from blk_ne hk h.bA ht) u
theorem TS.app {x : Int} {v1 : Value} (h : TS w0 gO gQ gA n w qv out q) (hQ : Kd.Q (Kd.int .i64) 3 w1 w0.heap.size (fun k => k ≠ gA) v1 (q ++ [x])) (hg : w.grownBy w1 qv.ownBlock) : TS w0 gO gQ gA n (w1.setCell ⟨gQ, 0, none⟩ v1) v1 out (q ++ [x]) ∧ Kept3 gQ w (w1.setCell ⟨gQ, 0, none⟩ v1) := by
 have nO : some gO ≠ qv.ownBlock := Kd.Q_ne h.hq h.bO (by decide); have nQ : some gQ ≠ qv.ownBlock := Kd.Q_ne h.hq h.bQ (by decide); have nA : some gA ≠ qv.ownBlock := Kd.Q_away h.hq (fun k hk => hk); have hB := h.below.grown hg h.le (Kd.Q_base h.hq); have bO := blk_grown h.bO hg nO; have bQ := blk_grown h.bQ hg nQ; have bA : IntBlk w1 gA out := blk_grown h.bA hg nA; have hne : v1.oneCell' = true ∨ True := .inr trivial; refine ⟨⟨below_set hB h.ge.2, blk_far bO h.ne _, ?_, RowBlk.far bA (Ne.symm h.nQA) _, h.ln, h.ge, h.ne, ?_⟩, fun k cs t hk ht hq => ?_⟩
 ·have := blk_set bQ 0 v1
  simpa using this
 ·exact Kd.Q_set hQ bQ (by intro r hr; simp [Kd.int, Kd.scalar] at hr; subst hr; decide) 0 v1
 ·exact blk_far (blk_grown hk hg (Kd.Q_ne h.hq hk (Ne.symm ht))) hq _
end
set_option maxHeartbeats 2000000 in
set_option maxRecDepth 100000 in
theorem reach_walk (w0 w : World) (gO gQ gA n : Nat) (qv : Value) (out q : List Int) (i : Nat) (v : Int) (h : TS w0 gO gQ gA n w qv out q) (hi : i < n) (hn : n ≤ 1000000) (hl : q.length ≤ 1000000) :
  Calls Try.prog 55 #[.int .i64 (i : Int), .int .i64 v, .pointer (some ⟨gO, 0, none⟩), .pointer (some ⟨gQ, 0, none⟩)] w fun e w' => e = .returned (.tuple #[]) ∧ Kept3 gQ w w' ∧ ∃ qv', TS w0 gO gQ gA n w' qv' (if out.getD i 0 < 0 then out.set i v else out) (if out.getD i 0 < 0 then q ++ [(i : Int)] else q) := by
 have hc := RowBlk.cell h.bA 0 i (by rw [h.ln]; exact hi); have e0 := blk_cell h.bO 0; have e1 := blk_cell h.bQ 0; have f0 := RowBlk.free h.bA i
 try simp at e0 e1
 obtain ⟨d, hd⟩ : ∃ d, d = out.getD i 0 := ⟨_, rfl⟩; rw [← hd] at hc ⊢
 have y1 : (i : Int) < (n : Int) := by omega
 have y2 : (i : Int) ≤ 1000000 := by omega
 have HL := ak hl; have HT := ak h
 by_cases hneg : d < 0
 ·have z1 : decide (d < 0) = true := decide_eq_true hneg; rw [if_pos hneg, if_pos hneg]; have HT2 := ak (h.put i v); have HK2 := ak (Kept3.put h i (.int .i64 v)); have e2 := blk_cell HT2.1.bQ 0; have f2 := blk_frozen HT2.1.bQ 0
  try simp at e2
  clear h hd hi hn hl hneg
  go_enter Try.func55, Try.ntmps55
  go_wp2_with (at_builtin; go_loud (refine Kd.Q_append (Kd.int .i64) (w0 := w0) w0.heap.size rfl (.tmp 15) (.tmp 17) 22 3 (.int .i64 0) 8 rfl Try.underlying22 info3 rfl (by decide) (by omega) qv q (i : Int) [.int .i64 (i : Int)] (fun k => k ≠ gA) (fun _ => False) rfl (by simp only [World.size_setCell]; rfl) rfl (fun _ hk => hk.elim) (fun k hk => by have := blk_lt HT2.1.bA; omega) HT2.1.hq HT2.1.below HT2.1.le (by have := HL.1; omega) ?_); intro v1 w1 ho hb hg hat; obtain ⟨A1, c1, hv1, _⟩ := Kd.Q_slice ho; rw [List.length_append, List.length_singleton] at hv1; subst hv1; have HA := ak (HT2.1.app ho hg); have f3 : w1.frozen? ⟨gQ, 0, none⟩ = false := blk_frozen (blk_grown HT2.1.bQ hg (Kd.Q_ne HT2.1.hq HT2.1.bQ (by decide))) 0; have c3 := blk_cell (blk_grown HT2.1.bQ hg (Kd.Q_ne HT2.1.hq HT2.1.bQ (by decide))) 0; (try simp at c3); clear ho hb hg hat e0 e1 e2 f0 f2 hc)
  go_end0
  exact ⟨rfl, HK2.1.trans HA.1.2, _, HA.1.1⟩
 ·have z1 : decide (d < 0) = false := decide_eq_false hneg; rw [if_neg hneg, if_neg hneg]; clear h hd hi hn hl hneg
  go_enter Try.func55, Try.ntmps55
  go_wp2
  go_end0
  exact ⟨rfl, Kept3.refl _ _, _, HT.1⟩
end Go.Proofs.Ytogmjilaiopjmaa.P
end
section
namespace Go.Proofs.Ytogmjilaiopjmaa.P
open Go.RowKit Go.Proofs.YtogmjilaiopjmaaW.PrintWords Go.Proofs.YtogmjilaiopjmaaW.PrintLast Go.Proofs.YtogmjilaiopjmaaW.PrintMore
abbrev St := List Int × List Nat
def reachP (st : St) (i : Nat) (v : Int) : St := if st.1.getD i 0 < 0 then (st.1.set i v, st.2 ++ [i]) else st
def initP (n k : Nat) (goal : Int) : Nat → St
 | 0 => (List.replicate (cntN n k) 0, [])
 | i + 1 =>
  let st := initP n k goal i
  let st1 : St := (st.1.set i (-1), st.2)
  if (unrT n k i : Int) = goal then reachP st1 i 0 else st1
def backP (l : List Bool) (t : Int) (rank : Nat) (st : St) (s : S51) : Option St :=
 (layout_Do.f l t s.f1 s.f0).bind fun b => (layout_Rank.f b.1 b.2.1).bind fun m =>
  if m.toNat < st.1.length ∧ 0 ≤ st.1.getD rank 0 ∧ st.1.getD rank 0 ≤ 1000000 ∧ st.2.length ≤ 1000000 then some (reachP st m.toNat (st.1.getD rank 0 + 1)) else none
def backsP (l : List Bool) (t : Int) (rank : Nat) : St → List S51 → Option St
 | st, [] => some st
 | st, s :: ss => (backP l t rank st s).bind fun st' => backsP l t rank st' ss
section
variable (W H D : Int) (K O r : List Int) (n k : Nat)
def bfsP : Nat → List Int → List Nat → Option (List Int)
 | 0, _, _ => none
 | _ + 1, out, [] => some out
 | f + 1, out, rank :: q =>
  if rank < cntN n k ∧ out.length = cntN n k then
   (layout_shifts.f W H D K O r (unrL n k rank) (unrT n k rank : Int) false).bind fun ss =>
    (backsP (unrL n k rank) (unrT n k rank : Int) rank (out, q) ss).bind fun st => bfsP f st.1 st.2
  else none
end
def puzzle_Table.f (W H D : Int) (K O r : List Int) (k goal : Int) : Option (List Int × Int) :=
 if 12 < r.length then some ([], 27)
 else if k < 1 ∨ (r.length : Int) < k ∨ goal < 0 ∨ (r.length : Int) ≤ goal then some ([], 3)
 else (bfsP W H D K O r r.length k.toNat (cntN r.length k.toNat + 1) (initP r.length k.toNat goal (cntN r.length k.toNat)).1 (initP r.length k.toNat goal (cntN r.length k.toNat)).2).bind fun out => some (out, 0)
theorem reachP_len (st : St) (i : Nat) (v : Int) : (reachP st i v).1.length = st.1.length := by
 unfold reachP
 split <;> simp
theorem initP_len (n k : Nat) (goal : Int) : ∀ i, (initP n k goal i).1.length = cntN n k
 | 0 => by simp [initP]
 | i + 1 => by
  have := initP_len n k goal i; simp only [initP]
  split
  ·rw [reachP_len]; simpa using this
  ·simpa using this
theorem initP_qlen (n k : Nat) (goal : Int) : ∀ i, (initP n k goal i).2.length ≤ i
 | 0 => by simp [initP]
 | i + 1 => by
  have := initP_qlen n k goal i; simp only [initP]
  split
  ·unfold reachP
   split
   ·simp; omega
   ·simp; omega
  ·simp; omega
theorem cntN_small {n k : Nat} (hn : n ≤ 12) : cntN n k ≤ 24576 := by
 unfold cntN
 have h1 : bin (n - 1) (k - 1) ≤ 2 ^ (n - 1) := bin_le _ _; have h2 : 2 ^ (n - 1) ≤ 2 ^ 11 := Nat.pow_le_pow_right (by omega) (by omega)
 calc n * bin (n - 1) (k - 1) ≤ 12 * 2048 := Nat.mul_le_mul hn (by omega)
  _ = 24576 := rfl
end Go.Proofs.Ytogmjilaiopjmaa.P
end
section
namespace Go.Proofs.Ytogmjilaiopjmaa.P
theorem getD_set (l : List Int) (i x : Nat) (v : Int) (h : i < l.length) : (l.set i v).getD x 0 = if x = i then v else l.getD x 0 := by
 by_cases e : x = i
 ·subst e
  simp [List.getD_eq_getElem?_getD, List.getElem?_set, h]
 ·have e' : ¬ i = x := fun h' => e h'.symm
  simp [List.getD_eq_getElem?_getD, List.getElem?_set, e, e']
def neg (l : List Int) : Nat := l.countP fun x => decide (x < 0)
theorem neg_set : ∀ (l : List Int) (i : Nat) (v : Int), i < l.length → l.getD i 0 < 0 → 0 ≤ v → neg (l.set i v) + 1 = neg l
 | [], i, v, h, _, _ => by simp at h
 | a :: l, 0, v, _, h, hv => by
  simp at h
  have h2 : ¬ v < 0 := by omega
  simp [neg, h, h2]
 | a :: l, i + 1, v, h, h', hv => by
  have := neg_set l i v (by simpa using h) (by simpa using h') hv
  unfold neg at this ⊢
  rw [List.set_cons_succ, List.countP_cons, List.countP_cons]
  omega
section
variable (m : Nat) (tgt : Nat → Prop) (pred : Nat → List Nat)
structure Inv (out : List Int) (q : List Nat) (p : Nat) : Prop where
 len : out.length = m
 lo : ∀ x, x < m → -1 ≤ out.getD x 0
 zero : ∀ x, x < m → (out.getD x 0 = 0 ↔ tgt x)
 qr : ∀ a, a ∈ q → a < m ∧ 0 ≤ out.getD a 0
 qs : q.Pairwise fun a b => out.getD a 0 ≤ out.getD b 0
 top : ∀ a, a ∈ q → ∀ y, y < m → out.getD y 0 ≤ out.getD a 0 + 1
 done : ∀ x, x < m → 0 ≤ out.getD x 0 → x ∈ q ∨ ∀ y, y ∈ pred x → 0 ≤ out.getD y 0 ∧ out.getD y 0 ≤ out.getD x 0 + 1
 from_ : ∀ x, x < m → 0 < out.getD x 0 → ∃ z, z < m ∧ x ∈ pred z ∧ out.getD z 0 = out.getD x 0 - 1
 bd : ∀ x, x < m → out.getD x 0 ≤ p
 budget : neg out + q.length + p ≤ m
structure Mid (h : Nat) (d : Int) (seen : List Nat) (p : Nat) (st : St) : Prop where
 len : st.1.length = m
 lo : ∀ x, x < m → -1 ≤ st.1.getD x 0
 zero : ∀ x, x < m → (st.1.getD x 0 = 0 ↔ tgt x)
 qr : ∀ a, a ∈ st.2 → a < m ∧ 0 ≤ st.1.getD a 0
 qs : st.2.Pairwise fun a b => st.1.getD a 0 ≤ st.1.getD b 0
 hm : h < m
 hd : st.1.getD h 0 = d
 d0 : 0 ≤ d
 dp : d ≤ p
 qd : ∀ a, a ∈ st.2 → d ≤ st.1.getD a 0
 top : ∀ y, y < m → st.1.getD y 0 ≤ d + 1
 done : ∀ x, x < m → 0 ≤ st.1.getD x 0 → x ∈ st.2 ∨ x = h ∨ ∀ y, y ∈ pred x → 0 ≤ st.1.getD y 0 ∧ st.1.getD y 0 ≤ st.1.getD x 0 + 1
 seen : ∀ y, y ∈ seen → 0 ≤ st.1.getD y 0
 from_ : ∀ x, x < m → 0 < st.1.getD x 0 → ∃ z, z < m ∧ x ∈ pred z ∧ st.1.getD z 0 = st.1.getD x 0 - 1
 bd : ∀ x, x < m → st.1.getD x 0 ≤ p + 1
 budget : neg st.1 + st.2.length + p + 1 ≤ m
variable {m tgt pred}
theorem Mid.start {out : List Int} {h : Nat} {q : List Nat} {p : Nat} (i : Inv m tgt pred out (h :: q) p) : Mid m tgt pred h (out.getD h 0) [] p (out, q) := by
 obtain ⟨hs, hq⟩ := List.pairwise_cons.1 i.qs; have hh := i.qr h (by simp); refine ⟨i.len, i.lo, i.zero, fun a ha => i.qr a (by simp [ha]), hq, hh.1, rfl, hh.2, i.bd h hh.1, hs, i.top h (by simp), fun x hx h0 => ?_, fun y hy => by simp at hy, i.from_, fun x hx => ?_, ?_⟩
 ·rcases i.done x hx h0 with h1 | h1
  ·rcases List.mem_cons.1 h1 with h2 | h2
   ·exact .inr (.inl h2)
   ·exact .inl h2
  ·exact .inr (.inr h1)
 ·have := i.bd x hx
  show out.getD x 0 ≤ p + 1
  omega
 ·have := i.budget; simp only [List.length_cons] at this ⊢
  omega
theorem Mid.finish {h : Nat} {d : Int} {p : Nat} {st : St} (i : Mid m tgt pred h d (pred h) p st) (hp : ∀ x, x < m → ∀ y, y ∈ pred x → y < m) : Inv m tgt pred st.1 st.2 (p + 1) := by
 refine ⟨i.len, i.lo, i.zero, i.qr, i.qs, fun a ha y hy => ?_, fun x hx h0 => ?_, i.from_, fun x hx => ?_, ?_⟩
 ·have h1 := i.qd a ha; have h2 := i.top y hy
  omega
 ·rcases i.done x hx h0 with h1 | h1 | h1
  ·exact .inl h1
  ·subst h1; refine .inr fun y hy => ⟨i.seen y hy, ?_⟩; rw [i.hd]; exact i.top y (hp x hx y hy)
  ·exact .inr h1
 ·have := i.bd x hx
  omega
 ·have := i.budget
  omega
theorem Mid.step {h : Nat} {d : Int} {p : Nat} {st : St} {seen : List Nat} {y : Nat} (i : Mid m tgt pred h d seen p st) (hy : y < m) (hp : y ∈ pred h) : Mid m tgt pred h d (seen ++ [y]) p (reachP st y (d + 1)) := by
 have hyl : y < st.1.length := by rw [i.len]; exact hy
 unfold reachP
 by_cases hn : st.1.getD y 0 < 0
 ·rw [if_pos hn]; have hg : ∀ x, (st.1.set y (d + 1)).getD x 0 = if x = y then d + 1 else st.1.getD x 0 := fun x => getD_set _ _ _ _ hyl
  have hold : ∀ x, 0 ≤ st.1.getD x 0 → (st.1.set y (d + 1)).getD x 0 = st.1.getD x 0 := fun x hx => by
   rw [hg, if_neg]; rintro rfl
   omega
  have d0 := i.d0; refine ⟨by simpa using i.len, fun x hx => ?_, fun x hx => ?_, fun a ha => ?_, ?_, i.hm, ?_, i.d0, i.dp, fun a ha => ?_, fun x hx => ?_, fun x hx h0 => ?_, fun x hx => ?_, fun x hx h0 => ?_, fun x hx => ?_, ?_⟩
  ·show -1 ≤ (st.1.set y (d + 1)).getD x 0
   rw [hg]
   split
   ·omega
   ·exact i.lo x hx
  ·show (st.1.set y (d + 1)).getD x 0 = 0 ↔ tgt x
   rw [hg]
   by_cases e : x = y
   ·rw [if_pos e]; subst e
    constructor
    ·intro h1; omega
    ·intro h1; have := (i.zero x hx).2 h1
     omega
   ·rw [if_neg e]; exact i.zero x hx
  ·show a < m ∧ 0 ≤ (st.1.set y (d + 1)).getD a 0
   rcases List.mem_append.1 ha with h1 | h1
   ·obtain ⟨h2, h3⟩ := i.qr a h1; exact ⟨h2, by rw [hold a h3]; exact h3⟩
   ·rw [List.mem_singleton] at h1; subst h1; exact ⟨hy, by rw [hg, if_pos rfl]; omega⟩
  ·show (st.2 ++ [y]).Pairwise fun a b => (st.1.set y (d + 1)).getD a 0 ≤ (st.1.set y (d + 1)).getD b 0
   rw [List.pairwise_append]; refine ⟨i.qs.imp_of_mem fun {a b} ha hb hab => by rw [hold a (i.qr a ha).2, hold b (i.qr b hb).2]; exact hab, List.pairwise_singleton _ _, fun a ha b hb => ?_⟩; rw [List.mem_singleton] at hb; subst hb; rw [hold a (i.qr a ha).2, hg, if_pos rfl]; exact i.top a (i.qr a ha).1
  ·show (st.1.set y (d + 1)).getD h 0 = d
   rw [hold h (by rw [i.hd]; omega), i.hd]
  ·show d ≤ (st.1.set y (d + 1)).getD a 0
   rcases List.mem_append.1 ha with h1 | h1
   ·rw [hold a (i.qr a h1).2]; exact i.qd a h1
   ·rw [List.mem_singleton] at h1; rw [hg, if_pos h1]; omega
  ·show (st.1.set y (d + 1)).getD x 0 ≤ d + 1
   rw [hg]
   split
   ·omega
   ·exact i.top x hx
  ·show x ∈ st.2 ++ [y] ∨ x = h ∨ ∀ z, z ∈ pred x → 0 ≤ (st.1.set y (d + 1)).getD z 0 ∧ (st.1.set y (d + 1)).getD z 0 ≤ (st.1.set y (d + 1)).getD x 0 + 1
   by_cases e : x = y
   ·exact .inl (by simp [e])
   ·have h0' : 0 ≤ st.1.getD x 0 := by
     have h1 : 0 ≤ (st.1.set y (d + 1)).getD x 0 := h0; rw [hg, if_neg e] at h1; exact h1
    rcases i.done x hx h0' with h1 | h1 | h1
    ·exact .inl (List.mem_append_left _ h1)
    ·exact .inr (.inl h1)
    ·refine .inr (.inr fun z hz => ?_); obtain ⟨h2, h3⟩ := h1 z hz; rw [hold z h2, hold x h0']; exact ⟨h2, h3⟩
  ·show 0 ≤ (st.1.set y (d + 1)).getD x 0
   rcases List.mem_append.1 hx with h1 | h1
   ·rw [hold x (i.seen x h1)]; exact i.seen x h1
   ·rw [List.mem_singleton] at h1; rw [hg, if_pos h1]; omega
  ·show ∃ z, z < m ∧ x ∈ pred z ∧ (st.1.set y (d + 1)).getD z 0 = (st.1.set y (d + 1)).getD x 0 - 1
   by_cases e : x = y
   ·subst e; refine ⟨h, i.hm, hp, ?_⟩; rw [hold h (by rw [i.hd]; omega), i.hd, hg, if_pos rfl]
    omega
   ·have h0' : 0 < st.1.getD x 0 := by
     have h1 : 0 < (st.1.set y (d + 1)).getD x 0 := h0; rw [hg, if_neg e] at h1; exact h1
    obtain ⟨z, hz, h1, h2⟩ := i.from_ x hx h0'; exact ⟨z, hz, h1, by rw [hold z (by omega), hold x (by omega)]; exact h2⟩
  ·show (st.1.set y (d + 1)).getD x 0 ≤ p + 1
   rw [hg]
   split
   ·have := i.dp; omega
   ·exact i.bd x hx
  ·show neg (st.1.set y (d + 1)) + (st.2 ++ [y]).length + p + 1 ≤ m
   have h1 := neg_set st.1 y (d + 1) hyl hn (by omega); have h2 := i.budget; simp only [List.length_append, List.length_singleton]
   omega
 ·rw [if_neg hn]; refine ⟨i.len, i.lo, i.zero, i.qr, i.qs, i.hm, i.hd, i.d0, i.dp, i.qd, i.top, i.done, fun x hx => ?_, i.from_, i.bd, i.budget⟩
  rcases List.mem_append.1 hx with h1 | h1
  ·exact i.seen x h1
  ·rw [List.mem_singleton] at h1; subst h1
   omega
def relax (d : Int) (st : St) (ps : List Nat) : St := ps.foldl (fun st y => reachP st y (d + 1)) st
theorem Mid.relax {h : Nat} {d : Int} {p : Nat} : ∀ (ps : List Nat) (st : St) (seen : List Nat), Mid m tgt pred h d seen p st → (∀ y, y ∈ ps → y < m ∧ y ∈ pred h) → Mid m tgt pred h d (seen ++ ps) p (relax d st ps)
 | [], st, seen, i, _ => by rw [List.append_nil]; exact i
 | y :: ps, st, seen, i, hp => by
  have h1 := (i.step (hp y (by simp)).1 (hp y (by simp)).2).relax ps _ _ (fun z hz => hp z (by simp [hz])); rw [List.append_assoc, List.singleton_append] at h1; exact h1
end
end Go.Proofs.Ytogmjilaiopjmaa.P
end
section
namespace Go.Proofs.Ytogmjilaiopjmaa.P
open Go.RowKit
def moveL (l : List Bool) (i j : Nat) : List Bool := (l.set i false).set j true
def moveT (t i j : Nat) : Nat := if t = i then j else t
theorem getB_set (l : List Bool) (i x : Nat) (v : Bool) (h : i < l.length) : (l.set i v).getD x false = if x = i then v else l.getD x false := by
 by_cases e : x = i
 ·subst e
  simp [List.getD_eq_getElem?_getD, List.getElem?_set, h]
 ·have e' : ¬ i = x := fun h' => e h'.symm
  simp [List.getD_eq_getElem?_getD, List.getElem?_set, e, e']
theorem moveL_len (l : List Bool) (i j : Nat) : (moveL l i j).length = l.length := by simp [moveL]
theorem moveL_get {l : List Bool} {i j : Nat} (hi : i < l.length) (hj : j < l.length) (x : Nat) : (moveL l i j).getD x false = if x = j then true else if x = i then false else l.getD x false := by
 unfold moveL
 rw [getB_set _ _ _ _ (by simpa using hj), getB_set _ _ _ _ hi]
theorem list_ext_getB {a b : List Bool} (h : a.length = b.length) (hx : ∀ x, a.getD x false = b.getD x false) : a = b := by
 apply List.ext_getElem h
 intro x h1 h2; have := hx x
 simpa [List.getD_eq_getElem?_getD, h1, h2] using this
theorem moveL_inv {l : List Bool} {i j : Nat} (hi : i < l.length) (hj : j < l.length) (h1 : l.getD i false = true) (h2 : l.getD j false = false) : moveL (moveL l i j) j i = l := by
 refine list_ext_getB (by simp [moveL_len]) fun x => ?_; rw [moveL_get (by rw [moveL_len]; exact hj) (by rw [moveL_len]; exact hi), moveL_get hi hj]
 by_cases e : x = i
 ·subst e; rw [if_pos rfl, h1]
 ·rw [if_neg e]
  by_cases e2 : x = j
  ·subst e2; rw [if_pos rfl, h2]
  ·rw [if_neg e2, if_neg e2, if_neg e]
theorem moveT_inv {l : List Bool} {t i j : Nat} (ht : l.getD t false = true) (h2 : l.getD j false = false) : moveT (moveT t i j) j i = t := by
 unfold moveT
 by_cases e : t = i
 ·subst e; rw [if_pos rfl, if_pos rfl]
 ·rw [if_neg e, if_neg]; rintro rfl; rw [ht] at h2; cases h2
theorem moveT_right {l : List Bool} {t i j : Nat} (hi : i < l.length) (hj : j < l.length) (ht : t < l.length) (h : l.getD t false = true) : moveT t i j < l.length ∧ (moveL l i j).getD (moveT t i j) false = true := by
 unfold moveT
 by_cases e : t = i
 ·rw [if_pos e]; exact ⟨hj, by rw [moveL_get hi hj, if_pos rfl]⟩
 ·rw [if_neg e]; refine ⟨ht, ?_⟩; rw [moveL_get hi hj]
  by_cases e2 : t = j
  ·rw [if_pos e2]
  ·rw [if_neg e2, if_neg e, h]
theorem shel_set_false : ∀ (l : List Bool) (i : Nat), l.getD i false = true → shel (l.set i false) + 1 = shel l
 | [], i, h => by simp at h
 | b :: l, 0, h => by
  simp at h
  rw [List.set_cons_zero, shel_cons, shel_cons, h]
  simp; omega
 | b :: l, i + 1, h => by
  have := shel_set_false l i (by simpa using h); rw [List.set_cons_succ, shel_cons, shel_cons]
  omega
theorem shel_set_true : ∀ (l : List Bool) (i : Nat), i < l.length → l.getD i false = false → shel (l.set i true) = shel l + 1
 | [], i, h, _ => by simp at h
 | b :: l, 0, _, h => by
  simp at h
  rw [List.set_cons_zero, shel_cons, shel_cons, h]
  simp; omega
 | b :: l, i + 1, hi, h => by
  have := shel_set_true l i (by simpa using hi) (by simpa using h); rw [List.set_cons_succ, shel_cons, shel_cons]
  omega
theorem shel_move {l : List Bool} {i j : Nat} (hi : i < l.length) (hj : j < l.length) (h1 : l.getD i false = true) (h2 : l.getD j false = false) : shel (moveL l i j) = shel l := by
 unfold moveL
 have e : ¬ j = i := by rintro rfl; rw [h1] at h2; cases h2
 rw [shel_set_true _ _ (by simpa using hj) (by rw [getB_set _ _ _ _ hi, if_neg e]; exact h2), shel_set_false _ _ h1]
theorem do_move {l : List Bool} {t i j : Nat} (hl : l.length ≤ 1000000) (hi : i < l.length) (hj : j < l.length) (h1 : l.getD i false = true) (h2 : l.getD j false = false) : layout_Do.f l (t : Int) (i : Int) (j : Int) = some (moveL l i j, ((moveT t i j : Nat) : Int), 0) := by
 unfold layout_Do.f
 rw [if_neg (fun h => h hl), if_neg (by omega), if_neg (by rw [Int.toNat_natCast, Int.toNat_natCast, h1, h2]; simp), Int.toNat_natCast, Int.toNat_natCast]
 unfold moveL moveT
 by_cases e : t = i
 ·subst e; simp
 ·have : ¬ (t : Int) = (i : Int) := by omega
  simp [e, this]
theorem okL_right {l : List Bool} {t : Nat} (h1 : l.length ≤ 24) (ht : t < l.length) (h : l.getD t false = true) : okL l (t : Int) = true := okL_iff.2 ⟨by omega, h1, by omega, by omega, by rw [Int.toNat_natCast]; exact h⟩
theorem rank_f {l : List Bool} {t : Nat} (h1 : l.length ≤ 24) (ht : t < l.length) (h : l.getD t false = true) : layout_Rank.f l (t : Int) = some (rankN l t : Int) := by
 unfold layout_Rank.f
 rw [if_pos (okL_right h1 ht h), Int.toNat_natCast]
section
variable (W H D : Int) (K O r : List Int) (n k : Nat)
def Edge (x y : Nat) : Prop := ∃ i j, i < n ∧ j < n ∧ (unrL n k x).getD i false = true ∧ (unrL n k x).getD j false = false ∧ gets W H D K O (r.getD i 0) (r.getD j 0) = true ∧ rankN (moveL (unrL n k x) i j) (moveT (unrT n k x) i j) = y
def backN (x : Nat) (s : S51) : Nat := rankN (moveL (unrL n k x) s.f1.toNat s.f0.toNat) (moveT (unrT n k x) s.f1.toNat s.f0.toNat)
def predN (x : Nat) : List Nat := (shiftsN W H D K O r (unrL n k x) false).map (backN n k x)
variable {W H D K O r n k}
theorem edge_lt (hk : 1 ≤ k) (hk2 : k ≤ n) {x : Nat} (hx : x < cntN n k) {i j : Nat} (hi : i < n) (hj : j < n) (h1 : (unrL n k x).getD i false = true) (h2 : (unrL n k x).getD j false = false) :
  let y := rankN (moveL (unrL n k x) i j) (moveT (unrT n k x) i j)
  y < cntN n k ∧ unrL n k y = moveL (unrL n k x) i j ∧ unrT n k y = moveT (unrT n k x) i j := by
 intro y; have hl := unrL_len hx; obtain ⟨hs, ht⟩ := unrL_right hk hk2 hx; have hT := unrT_lt hx; obtain ⟨a, b⟩ := moveT_right (i := i) (j := j) (by omega) (by omega) (by omega : unrT n k x < (unrL n k x).length) ht; have hsm := shel_move (l := unrL n k x) (by omega) (by omega) h1 h2; have hlm := moveL_len (unrL n k x) i j; have r1 := rank_lt (by omega) b; obtain ⟨r2, r3⟩ := unr_rank (by omega) b; rw [hlm, hsm, hl, hs] at r1 r2 r3; exact ⟨r1, r3, r2⟩
theorem mem_predN (hk : 1 ≤ k) (hk2 : k ≤ n) (hn : r.length = n) {x y : Nat} (hx : x < cntN n k) : y ∈ predN W H D K O r n k x ↔ y < cntN n k ∧ Edge W H D K O r n k y x := by
 have hl := unrL_len hx
 unfold predN
 rw [List.mem_map]
 constructor
 ·rintro ⟨s, hs, rfl⟩; obtain ⟨i, j, hi, hj, h1, h2, hg, rfl⟩ := mem_shiftsN.1 hs
  have h2' : (unrL n k x).getD j false = true := by simpa using h2
  rw [hn] at hi hj; obtain ⟨e1, e2, e3⟩ := edge_lt hk hk2 hx hj hi h2' h1
  unfold backN
  dsimp only; rw [Int.toNat_natCast, Int.toNat_natCast]; refine ⟨e1, i, j, hi, hj, ?_, ?_, hg, ?_⟩
  ·rw [e2, moveL_get (by omega) (by omega), if_pos rfl]
  ·rw [e2, moveL_get (by omega) (by omega)]
   split
   ·rename_i e; rw [e] at h2'; rw [h2'] at h1; cases h1
   ·rw [if_pos rfl]
  ·obtain ⟨hs', ht'⟩ := unrL_right hk hk2 hx; rw [e2, e3, moveL_inv (by omega) (by omega) h2' h1, moveT_inv ht' h1]; exact rank_unr hk hk2 hx
 ·rintro ⟨hy, i, j, hi, hj, h1, h2, hg, he⟩; have hly := unrL_len hy; obtain ⟨e1, e2, e3⟩ := edge_lt hk hk2 hy hi hj h1 h2; rw [he] at e1 e2 e3; refine ⟨⟨(i : Int), (j : Int)⟩, mem_shiftsN.2 ⟨i, j, by omega, by omega, ?_, ?_, hg, rfl⟩, ?_⟩
  ·rw [e2, moveL_get (by omega) (by omega)]
   split
   ·rename_i e; rw [e] at h1; rw [h1] at h2; cases h2
   ·rw [if_pos rfl]
  ·rw [e2, moveL_get (by omega) (by omega), if_pos rfl]; simp
  ·unfold backN
   dsimp only; obtain ⟨hs', ht'⟩ := unrL_right hk hk2 hy; rw [Int.toNat_natCast, Int.toNat_natCast, e2, e3, moveL_inv (by omega) (by omega) h1 h2, moveT_inv ht' h2]; exact rank_unr hk hk2 hy
end
end Go.Proofs.Ytogmjilaiopjmaa.P
end
section
namespace Go.Proofs.Ytogmjilaiopjmaa.P
open Go.RowKit
theorem reachP_sum (st : St) (y : Nat) (v : Int) (h : y < st.1.length) (hv : 0 ≤ v) : neg (reachP st y v).1 + (reachP st y v).2.length = neg st.1 + st.2.length := by
 unfold reachP
 split
 ·rename_i hn
  have := neg_set st.1 y v h hn hv; simp only [List.length_append, List.length_singleton]
  omega
 ·rfl
section
variable {W H D : Int} {K O r : List Int} {n k : Nat} {tgt : Nat → Prop}
theorem backs_relax (hk : 1 ≤ k) (hk2 : k ≤ n) (hn : r.length = n) (hn12 : n ≤ 12) {x : Nat} (hx : x < cntN n k) {d : Int} {p : Nat} : ∀ (ss : List S51) (st : St) (seen : List Nat), Mid (cntN n k) tgt (predN W H D K O r n k) x d seen p st → (∀ s, s ∈ ss → s ∈ shiftsN W H D K O r (unrL n k x) false) →
  backsP (unrL n k x) (unrT n k x : Int) x st ss = some (relax d st (ss.map (backN n k x))) ∧ Mid (cntN n k) tgt (predN W H D K O r n k) x d (seen ++ ss.map (backN n k x)) p (relax d st (ss.map (backN n k x))) ∧ neg (relax d st (ss.map (backN n k x))).1 + (relax d st (ss.map (backN n k x))).2.length = neg st.1 + st.2.length
 | [], st, seen, i, _ => ⟨rfl, by simpa [relax] using i, rfl⟩
 | s :: ss, st, seen, i, hs => by
  have hsm := hs s (by simp); have hb : backN n k x s ∈ predN W H D K O r n k x := List.mem_map.2 ⟨s, hsm, rfl⟩; have hlt := ((mem_predN hk hk2 hn hx).1 hb).1; have hmid := i.step hlt hb; obtain ⟨a, b, ha, hbb, h1, h2, hg, rfl⟩ := mem_shiftsN.1 hsm
  have h2' : (unrL n k x).getD b false = true := by simpa using h2
  have hl := unrL_len hx; rw [hn] at ha hbb; obtain ⟨hsh, ht⟩ := unrL_right hk hk2 hx; have hT := unrT_lt hx; obtain ⟨q1, q2⟩ := moveT_right (l := unrL n k x) (t := unrT n k x) (i := b) (j := a) (by omega) (by omega) (by omega) ht; have hm := cntN_small (n := n) (k := k) hn12; have hbud := i.budget; have hdp := i.dp; have hd0 := i.d0; have hdd := i.hd; have hlen := i.len
  have eB : backN n k x ⟨(a : Int), (b : Int)⟩ = rankN (moveL (unrL n k x) b a) (moveT (unrT n k x) b a) := by
   unfold backN
   dsimp only; rw [Int.toNat_natCast, Int.toNat_natCast]
  have eP : backP (unrL n k x) (unrT n k x : Int) x st ⟨(a : Int), (b : Int)⟩ = some (reachP st (backN n k x ⟨(a : Int), (b : Int)⟩) (d + 1)) := by
   unfold backP
   dsimp only; rw [do_move (by omega) (by omega) (by omega) h2' h1, Option.bind_some]; dsimp only; rw [rank_f (by rw [moveL_len]; omega) (by rw [moveL_len]; exact q1) q2, Option.bind_some, Int.toNat_natCast, ← eB, hdd, if_pos ⟨by rw [hlen]; exact hlt, hd0, by omega, by omega⟩]
  obtain ⟨r1, r2, r3⟩ := backs_relax hk hk2 hn hn12 hx ss _ _ hmid (fun z hz => hs z (by simp [hz])); refine ⟨?_, ?_, ?_⟩
  ·simp only [backsP, eP, Option.bind_some]; exact r1
  ·rw [List.append_assoc, List.singleton_append] at r2; exact r2
  ·rw [List.map_cons]
   show neg (relax d (reachP st (backN n k x ⟨(a : Int), (b : Int)⟩) (d + 1)) (ss.map (backN n k x))).1 + _ = _
   rw [show relax d st (backN n k x ⟨(a : Int), (b : Int)⟩ :: ss.map (backN n k x)) = relax d (reachP st (backN n k x ⟨(a : Int), (b : Int)⟩) (d + 1)) (ss.map (backN n k x)) from rfl, r3, reachP_sum _ _ _ (by rw [hlen]; exact hlt) (by omega)]
theorem bfs_ok (hf : FloorOk W H D K O) (hs : r.Pairwise (· < ·)) (hk : 1 ≤ k) (hk2 : k ≤ n) (hn : r.length = n) (hn12 : n ≤ 12) : ∀ (f : Nat) (out : List Int) (q : List Nat) (p : Nat), Inv (cntN n k) tgt (predN W H D K O r n k) out q p → neg out + q.length + 1 ≤ f →
  ∃ out' p', bfsP W H D K O r n k f out q = some out' ∧ Inv (cntN n k) tgt (predN W H D K O r n k) out' [] p'
 | 0, out, q, p, _, h => by omega
 | f + 1, out, [], p, i, _ => ⟨out, p, rfl, i⟩
 | f + 1, out, x :: q, p, i, h => by
  have hx := (i.qr x (by simp)).1; have hl := unrL_len hx; have hmid := Mid.start i; obtain ⟨r1, r2, r3⟩ := backs_relax (W := W) (H := H) (D := D) (K := K) (O := O) (r := r) (tgt := tgt) hk hk2 hn hn12 hx (shiftsN W H D K O r (unrL n k x) false) _ _ hmid (fun s hs => hs); rw [List.nil_append] at r2; have hfin := Mid.finish (st := relax _ _ _) r2 (fun z hz y hy => ((mem_predN hk hk2 hn hz).1 hy).1)
  have hS : layout_shifts.f W H D K O r (unrL n k x) (unrT n k x : Int) false = some (shiftsN W H D K O r (unrL n k x) false) := by
   unfold layout_shifts.f
   rw [if_pos ⟨hf, hs, by omega, by omega, by omega, by omega⟩]
  obtain ⟨out', p', e1, e2⟩ := bfs_ok hf hs hk hk2 hn hn12 f _ _ _ hfin (by simp only [List.length_cons] at h; rw [r3]; dsimp only; omega); refine ⟨out', p', ?_, e2⟩; simp only [bfsP]; rw [if_pos ⟨hx, i.len⟩, hS, Option.bind_some, r1, Option.bind_some]; exact e1
theorem neg_set2 : ∀ (l : List Int) (i : Nat) (v : Int), i < l.length → 0 ≤ l.getD i 0 → v < 0 → neg (l.set i v) = neg l + 1
 | [], i, v, h, _, _ => by simp at h
 | a :: l, 0, v, _, h, hv => by
  simp at h
  have h2 : ¬ a < 0 := by omega
  simp [neg, h2, hv]
 | a :: l, i + 1, v, h, h', hv => by
  have := neg_set2 l i v (by simpa using h) (by simpa using h') hv
  unfold neg at this ⊢
  rw [List.set_cons_succ, List.countP_cons, List.countP_cons]
  omega
theorem init_spec (g : Int) : ∀ i, i ≤ cntN n k → let st := initP n k g i
  (∀ x, x < cntN n k → st.1.getD x 0 = if x < i ∧ ¬ (unrT n k x : Int) = g then -1 else 0) ∧ (∀ a, a ∈ st.2 ↔ a < i ∧ (unrT n k a : Int) = g) ∧ neg st.1 + st.2.length = i
 | 0, _ => by
  refine ⟨fun x hx => ?_, fun a => ?_, ?_⟩
  ·rw [if_neg (by omega)]
   simp [initP, List.getD_eq_getElem?_getD, List.getElem?_replicate, hx]
  ·simp [initP]
  ·simp [initP, neg, List.countP_replicate]
 | i + 1, hi => by
  obtain ⟨h1, h2, h3⟩ := init_spec g i (by omega); have hlen := initP_len n k g i
  have hi0 : (initP n k g i).1.getD i 0 = 0 := by rw [h1 i (by omega), if_neg (by omega)]
  have hneg := neg_set2 (initP n k g i).1 i (-1) (by omega) (by omega) (by omega); have hg : ∀ x, ((initP n k g i).1.set i (-1)).getD x 0 = if x = i then -1 else (initP n k g i).1.getD x 0 := fun x => getD_set _ _ _ _ (by omega); simp only [initP]
  by_cases ht : (unrT n k i : Int) = g
  ·rw [if_pos ht]
   unfold reachP
   rw [if_pos (by show ((initP n k g i).1.set i (-1)).getD i 0 < 0; rw [hg, if_pos rfl]; omega)]; dsimp only; have hneg2 := neg_set ((initP n k g i).1.set i (-1)) i 0 (by simpa using (show i < (initP n k g i).1.length by omega)) (by rw [hg, if_pos rfl]; omega) (by omega); refine ⟨fun x hx => ?_, fun a => ?_, ?_⟩
   ·rw [getD_set _ _ _ _ (by simpa using (show i < (initP n k g i).1.length by omega)), hg]
    by_cases e : x = i
    ·subst e; rw [if_pos rfl, if_neg (by simp [ht])]
    ·rw [if_neg e, if_neg e, h1 x hx]
     have : (x < i ∧ ¬ (unrT n k x : Int) = g) ↔ (x < i + 1 ∧ ¬ (unrT n k x : Int) = g) := by omega
     simp only [this]
   ·rw [List.mem_append, h2, List.mem_singleton]
    constructor
    ·rintro (⟨a1, a2⟩ | rfl)
     ·exact ⟨by omega, a2⟩
     ·exact ⟨by omega, ht⟩
    ·rintro ⟨a1, a2⟩
     by_cases e : a = i
     ·exact .inr e
     ·exact .inl ⟨by omega, a2⟩
   ·rw [List.length_append, List.length_singleton]
    omega
  ·rw [if_neg ht]; dsimp only; refine ⟨fun x hx => ?_, fun a => ?_, ?_⟩
   ·rw [hg]
    by_cases e : x = i
    ·subst e; rw [if_pos rfl, if_pos ⟨by omega, ht⟩]
    ·rw [if_neg e, h1 x hx]
     have : (x < i ∧ ¬ (unrT n k x : Int) = g) ↔ (x < i + 1 ∧ ¬ (unrT n k x : Int) = g) := by omega
     simp only [this]
   ·rw [h2]
    constructor
    ·rintro ⟨a1, a2⟩; exact ⟨by omega, a2⟩
    ·rintro ⟨a1, a2⟩; refine ⟨?_, a2⟩
     rcases Nat.lt_or_ge a i with h | h
     ·exact h
     ·obtain rfl : a = i := by omega
      exact absurd a2 ht
   ·omega
theorem init_inv (g : Int) : Inv (cntN n k) (fun x => (unrT n k x : Int) = g) (predN W H D K O r n k) (initP n k g (cntN n k)).1 (initP n k g (cntN n k)).2 0 := by
 obtain ⟨h1, h2, h3⟩ := init_spec (n := n) (k := k) g (cntN n k) (Nat.le_refl _)
 have hv : ∀ x, x < cntN n k → (initP n k g (cntN n k)).1.getD x 0 = if (unrT n k x : Int) = g then 0 else -1 := fun x hx => by
  rw [h1 x hx]
  by_cases e : (unrT n k x : Int) = g
  ·rw [if_neg (fun h => h.2 e), if_pos e]
  ·rw [if_pos ⟨hx, e⟩, if_neg e]
 have hq : ∀ a, a ∈ (initP n k g (cntN n k)).2 → a < cntN n k ∧ (initP n k g (cntN n k)).1.getD a 0 = 0 := fun a ha => by
  obtain ⟨a1, a2⟩ := (h2 a).1 ha; exact ⟨a1, by rw [hv a a1, if_pos a2]⟩
 refine ⟨initP_len n k g _, fun x hx => ?_, fun x hx => ?_, fun a ha => ?_, ?_, fun a ha y hy => ?_, fun x hx h0 => ?_, fun x hx h0 => ?_, fun x hx => ?_, by omega⟩
 ·rw [hv x hx]; split <;> omega
 ·rw [hv x hx]
  constructor
  ·intro h; by_cases e : (unrT n k x : Int) = g
   ·exact e
   ·rw [if_neg e] at h; omega
  ·intro h; rw [if_pos h]
 ·obtain ⟨a1, a2⟩ := hq a ha; exact ⟨a1, by omega⟩
 ·exact List.Pairwise.imp_of_mem (R := fun _ _ => True) (fun {a b} ha hb _ => by rw [(hq a ha).2, (hq b hb).2]; exact Int.le_refl _) (List.pairwise_of_forall (fun _ _ => trivial))
 ·rw [(hq a ha).2, hv y hy]
  split <;> omega
 ·rw [hv x hx] at h0
  by_cases e : (unrT n k x : Int) = g
  ·exact .inl ((h2 x).2 ⟨hx, e⟩)
  ·rw [if_neg e] at h0; omega
 ·rw [hv x hx] at h0
  split at h0 <;> omega
 ·rw [hv x hx]; split <;> omega
end
structure TableOk (W H D : Int) (K O r : List Int) (n k : Nat) (g : Int) (out : List Int) : Prop where
 len : out.length = cntN n k
 lo : ∀ x, x < cntN n k → -1 ≤ out.getD x 0
 hi : ∀ x, x < cntN n k → out.getD x 0 ≤ 100000
 zero : ∀ x, x < cntN n k → (out.getD x 0 = 0 ↔ (unrT n k x : Int) = g)
 closed : ∀ x y, x < cntN n k → y < cntN n k → Edge W H D K O r n k y x → 0 ≤ out.getD x 0 → 0 ≤ out.getD y 0 ∧ out.getD y 0 ≤ out.getD x 0 + 1
 next : ∀ x, x < cntN n k → 0 < out.getD x 0 → ∃ z, z < cntN n k ∧ Edge W H D K O r n k x z ∧ out.getD z 0 = out.getD x 0 - 1
theorem table_f {W H D : Int} {K O r : List Int} {k g : Nat} (hf : FloorOk W H D K O) (hs : r.Pairwise (· < ·)) (hk : 1 ≤ k) (hk2 : k ≤ r.length) (hg : g < r.length) (hn12 : r.length ≤ 12) :
  ∃ out, puzzle_Table.f W H D K O r (k : Int) (g : Int) = some (out, 0) ∧ TableOk W H D K O r r.length k (g : Int) out := by
 obtain ⟨out, p, h1, i⟩ := bfs_ok (n := r.length) hf hs hk hk2 rfl hn12 (cntN r.length k + 1) _ _ _ (init_inv (g : Int)) (by have := (init_inv (W := W) (H := H) (D := D) (K := K) (O := O) (r := r) (n := r.length) (k := k) (g : Int)).budget; omega); refine ⟨out, ?_, i.len, i.lo, fun x hx => ?_, i.zero, fun x y hx hy he h0 => ?_, fun x hx h0 => ?_⟩
 ·unfold puzzle_Table.f
  rw [if_neg (by omega), if_neg (by omega), Int.toNat_natCast, h1, Option.bind_some]
 ·have h2 := i.bd x hx; have h3 := i.budget; have h4 := cntN_small (n := r.length) (k := k) hn12
  omega
 ·rcases i.done x hx h0 with h2 | h2
  ·simp at h2
  ·exact h2 y ((mem_predN hk hk2 rfl hx).2 ⟨hy, he⟩)
 ·obtain ⟨z, hz, h2, h3⟩ := i.from_ x hx h0; exact ⟨z, hz, ((mem_predN hk hk2 rfl hz).1 h2).2, h3⟩
end Go.Proofs.Ytogmjilaiopjmaa.P
end
section
namespace Go.Proofs.Ytogmjilaiopjmaa.P
open Go.RowKit Go.Proofs.YtogmjilaiopjmaaW.PrintWords
theorem right07_l0 (W H D : Int) (K O : List Int) (n : Nat) (hn : n ≤ 1000000) (hK : K.length = n) (hO : O.length = n) : ∀ (d k i : Nat), i + d = n → d < k → ∃ b, taquinref07_Right.l0 k (n : Int) (i : Int) W H D K O = some b
 | d, 0, i, h, h' => by omega
 | d, k + 1, i, h, h' => by
  simp only [taquinref07_Right.l0]
  by_cases hi : i < n
  ·rw [if_pos (by omega), if_pos (by omega), if_pos (by omega)]
   split
   ·exact ⟨_, rfl⟩
   ·split
    ·exact ⟨_, rfl⟩
    ·rw [if_pos (by omega)]
     split
     ·exact ⟨_, rfl⟩
     ·split
      ·exact ⟨_, rfl⟩
      ·rw [wrap_id (by omega) (by omega), show (i : Int) + 1 = ((i + 1 : Nat) : Int) by omega]; exact right07_l0 W H D K O n hn hK hO (d - 1) k (i + 1) (by omega) (by omega)
  ·rw [if_neg (by omega)]; exact ⟨_, rfl⟩
theorem right07 (W H D : Int) (K O : List Int) : ∃ b, taquinref07_Right.f 5000 W H D K O = some b ∧ (b = true → FloorOk W H D K O) := by
 have hj : ∀ k, taquinref07_Right.j0 (k + 1) true W H D K O = some false := fun k => by simp [taquinref07_Right.j0]
 have no : ∃ b, taquinref07_Right.j0 5000 true W H D K O = some b ∧ (b = true → FloorOk W H D K O) := ⟨false, hj _, fun h => by cases h⟩; have nj : ∀ n, ∃ b, taquinref07_Right.j1 4999 n true W H D K O = some b ∧ (b = true → FloorOk W H D K O) := fun n => ⟨false, by simp [taquinref07_Right.j1], fun h => by cases h⟩
 unfold taquinref07_Right.f
 split
 ·exact no
 rename_i w1
 split
 ·exact no
 rename_i h1
 split
 ·exact no
 rename_i d1
 split
 ·exact no
 rename_i d2
 split
 ·exact no
 rename_i w2
 by_cases h2 : H > 4096
 ·rw [decide_eq_true h2]; exact no
 rw [decide_eq_false h2]; have b1 : 1 * 1 ≤ W * H := Int.mul_le_mul (by omega) (by omega) (by omega) (by omega); have b2 : W * H ≤ 4096 * 4096 := Int.mul_le_mul (by omega) (by omega) (by omega) (by omega); have b3 : 1 * 1 ≤ W * H * D := Int.mul_le_mul (by omega) (by omega) (by omega) (by omega); have b4 : W * H * D ≤ (4096 * 4096) * 4 := Int.mul_le_mul (by omega) (by omega) (by omega) (by omega); have e1 : wrap64 (W * H) = W * H := wrap_id (by omega) (by omega)
 have e2 : wrap64 (wrap64 (W * H) * D) = W * H * D := by rw [e1]; exact wrap_id (by omega) (by omega)
 show ∃ b, taquinref07_Right.j0 (4999 + 1) false W H D K O = some b ∧ _
 simp only [taquinref07_Right.j0]; rw [e2, if_neg (by simp)]
 split
 ·exact nj _
 rename_i s1
 split
 ·rename_i k1
  by_cases o1 : (O.length : Int) = W * H * D
  ·rw [show ((O.length : Int) != W * H * D) = false by simp [o1]]
   show ∃ b, taquinref07_Right.j1 (4998 + 1) (W * H * D) false W H D K O = some b ∧ _
   simp only [taquinref07_Right.j1]; rw [if_neg (by simp), ← k1]; obtain ⟨b, hb⟩ := right07_l0 W H D K O K.length (by omega) rfl (by omega) K.length 4998 0 (by omega) (by omega); exact ⟨b, hb, fun _ => ⟨by omega, by omega, by omega, by omega, by omega, by omega, by omega, k1, o1⟩⟩
  ·rw [show ((O.length : Int) != W * H * D) = true by simp [o1]]; exact nj _
 ·exact nj _
theorem few_f (W H D : Int) (K O : List Int) (m : Int) : ∃ b, taquinref07_Few.f W H D K O m = some b := by
 unfold taquinref07_Few.f
 split <;> exact ⟨_, rfl⟩
theorem mx_pos {i : Nat} (h : 0 < i) (hi : i ≤ 1000000) : mx (wrap64 ((i : Int) - 1)) 0 = ((i - 1 : Nat) : Int) := by
 rw [wrap_id (by omega) (by omega)]
 unfold mx
 split <;> omega
theorem right08_l0 (r : List Int) (hr : r.length ≤ 1000000) : ∀ (d k i : Nat), i + d = r.length → d < k → ∃ b, taquinref08_Right.l0 k r (i : Int) = some b ∧ (b = true → ∀ j, i ≤ j → j < r.length → 0 ≤ r.getD j 0 ∧ r.getD j 0 < 4096 ∧ (0 < j → r.getD (j - 1) 0 < r.getD j 0))
 | d, 0, i, h, h' => by omega
 | d, k + 1, i, h, h' => by
  simp only [taquinref08_Right.l0]
  by_cases hi : i < r.length
  ·rw [if_pos (by omega), if_pos (by omega), rd_nat]
   split
   ·exact ⟨false, rfl, fun h => by cases h⟩
   rename_i a1
   split
   ·exact ⟨false, rfl, fun h => by cases h⟩
   rename_i a2
   obtain ⟨b, hb, hs⟩ := right08_l0 r hr (d - 1) k (i + 1) (by omega) (by omega); rw [wrap_id (x := (i : Int) + 1) (by omega) (by omega), show (i : Int) + 1 = ((i + 1 : Nat) : Int) by omega]
   split
   ·rename_i a3
    rw [mx_pos (by omega) (by omega), if_pos (by omega), if_pos (by omega), rd_nat]
    split
    ·exact ⟨false, rfl, fun h => by cases h⟩
    rename_i a4
    refine ⟨b, hb, fun ht j hj hj2 => ?_⟩
    by_cases e : j = i
    ·subst e; exact ⟨by omega, by omega, fun _ => by omega⟩
    ·exact hs ht j (by omega) hj2
   ·rename_i a3
    refine ⟨b, hb, fun ht j hj hj2 => ?_⟩
    by_cases e : j = i
    ·subst e; exact ⟨by omega, by omega, fun h0 => by omega⟩
    ·exact hs ht j (by omega) hj2
  ·rw [if_neg (by omega)]; exact ⟨true, rfl, fun _ j hj hj2 => by omega⟩
theorem sorted_of {r : List Int} (h : ∀ j, j < r.length → 0 < j → r.getD (j - 1) 0 < r.getD j 0) : r.Pairwise (· < ·) := by
 rw [List.pairwise_iff_getElem]
 have key : ∀ d i, i + d + 1 < r.length → r.getD i 0 < r.getD (i + d + 1) 0 := by
  intro d
  induction d with
  | zero => intro i hi; exact h (i + 0 + 1) hi (by omega)
  | succ d ih =>
   intro i hi; have h1 := ih i (by omega); have h2 := h (i + (d + 1) + 1) hi (by omega); rw [show i + (d + 1) + 1 - 1 = i + d + 1 by omega] at h2
   omega
 intro i j hi hj hij; have := key (j - i - 1) i (by omega); rw [show i + (j - i - 1) + 1 = j by omega] at this
 simpa [List.getD_eq_getElem?_getD, hi, hj] using this
theorem right08 (r : List Int) (hr : r.length ≤ 1000) : ∃ b, taquinref08_Right.f 5000 r = some b ∧ (b = true → r.Pairwise (· < ·)) := by
 obtain ⟨b, hb, hs⟩ := right08_l0 r (by omega) r.length 5000 0 (by omega) (by omega); exact ⟨b, hb, fun ht => sorted_of fun j hj h0 => (hs ht j (by omega) hj).2.2 h0⟩
theorem right25 (l : List Bool) (t : Int) : ∃ b, taquinref25_Right.f l t = some b ∧ (b = true → okL l t = true) := by
 unfold taquinref25_Right.f
 split
 ·exact ⟨false, rfl, fun h => by cases h⟩
 split
 ·exact ⟨false, rfl, fun h => by cases h⟩
 split
 ·exact ⟨false, rfl, fun h => by cases h⟩
 split
 ·exact ⟨false, rfl, fun h => by cases h⟩
 rw [if_pos (by omega), if_pos (by omega)]; refine ⟨_, rfl, fun h => okL_iff.2 ⟨by omega, by omega, by omega, by omega, ?_⟩⟩; exact h
theorem fair_f (W H D : Int) (K O r : List Int) (l : List Bool) (t : Int) : ∃ b, taquinlaw26_fair.f 5000 W H D K O r l t = some b ∧ (b = true → FloorOk W H D K O ∧ r.Pairwise (· < ·) ∧ r.length ≤ 14 ∧ okL l t = true ∧ l.length = r.length) := by
 have no : ∃ b, some false = some b ∧ (b = true → FloorOk W H D K O ∧ r.Pairwise (· < ·) ∧ r.length ≤ 14 ∧ okL l t = true ∧ l.length = r.length) := ⟨false, rfl, fun h => by cases h⟩
 unfold taquinlaw26_fair.f
 obtain ⟨b1, h1⟩ := few_f W H D K O 100; rw [h1, Option.bind_some]
 split
 rotate_left; (exact no); obtain ⟨b2, h2, f2⟩ := right07 W H D K O; rw [h2, Option.bind_some]
 split
 rotate_left; (exact no)
 rename_i e2
 split
 rotate_left; (exact no)
 rename_i e3
 obtain ⟨b4, h4, f4⟩ := right08 r (by omega); rw [h4, Option.bind_some]
 split
 rotate_left; (exact no)
 rename_i e4
 obtain ⟨b5, h5, f5⟩ := right25 l t; rw [h5, Option.bind_some]
 split
 rotate_left; (exact no)
 rename_i e5
 refine ⟨_, rfl, fun h => ⟨f2 e2, f4 e4, by omega, f5 e5, ?_⟩⟩; have := beq_iff_eq.1 h
 omega
end Go.Proofs.Ytogmjilaiopjmaa.P
end
section
namespace Go.Proofs.Ytogmjilaiopjmaa.P
open Go.RowKit Go.Proofs.YtogmjilaiopjmaaW.PrintWords Go.Proofs.YtogmjilaiopjmaaW.PrintLast Go.Proofs.YtogmjilaiopjmaaW.PrintMore
attribute [local go_sem] max2_int min2_int max_two min_two max_three min_three max_four min_four
def layout_Backs.f (a0_0 : Int) (a0_1 : Int) (a0_2 : Int) (l0_3 : List Int) (l0_4 : List Int) (l1 : List Int) (l2_0 : List Bool) (a2_1 : Int) : Option ((List (S51))) := (layout_shifts.f a0_0 a0_1 a0_2 l0_3 l0_4 l1 l2_0 a2_1 false).bind fun t144 => (some t144)
set_option maxHeartbeats 8000000 in
set_option maxRecDepth 100000 in
theorem layout_Backs.calls (a0_0 : Int) (a0_1 : Int) (a0_2 : Int) (A0_3 : Option Addr) (c0_3 : Nat) (l0_3 : List Int) (A0_4 : Option Addr) (c0_4 : Nat) (l0_4 : List Int) (A1 : Option Addr) (c1 : Nat) (l1 : List Int) (A2_0 : Option Addr) (c2_0 : Nat) (l2_0 : List Bool) (a2_1 : Int) (r : List (S51)) (w : World) (hr0_3 : Kd.C (Kd.int .i64) w A0_3 l0_3.length l0_3) (hc0_3 : l0_3.length ≤ c0_3) (hr0_4 : Kd.C (Kd.int .i64) w A0_4 l0_4.length l0_4) (hc0_4 : l0_4.length ≤ c0_4) (hr1 : Kd.C (Kd.int .i64) w A1 l1.length l1) (hc1 : l1.length ≤ c1) (hr2_0 : Kd.C Kd.bool w A2_0 l2_0.length l2_0) (hc2_0 : l2_0.length ≤ c2_0) (h : layout_Backs.f a0_0 a0_1 a0_2 l0_3 l0_4 l1 l2_0 a2_1 = some r) :
  Calls Try.prog 56 #[.agg #[.int .i64 a0_0, .int .i64 a0_1, .int .i64 a0_2, .slice A0_3 l0_3.length c0_3, .slice A0_4 l0_4.length c0_4], .slice A1 l1.length c1, .agg #[.slice A2_0 l2_0.length c2_0, .int .i64 a2_1]] w fun e w' => ∃ v0_ : Value, e = .returned (v0_) ∧ Kd.R k51 51 w' w.heap.size (fun _ => True) v0_ r ∧ Below w.heap.size w w' := by
 have hu24 := Try.underlying24; have hu27 := Try.underlying27; have HR0_3 := ak hr0_3; have HC0_3 := ak hc0_3; clear hr0_3 hc0_3; have HR0_4 := ak hr0_4; have HC0_4 := ak hc0_4; clear hr0_4 hc0_4; have HR1 := ak hr1; have HC1 := ak hc1; clear hr1 hc1; have HR2_0 := ak hr2_0; have HC2_0 := ak hc2_0; clear hr2_0 hc2_0; have HB := ak (Below.refl w.heap.size w); have H : ((layout_shifts.f a0_0 a0_1 a0_2 l0_3 l0_4 l1 l2_0 a2_1 false).bind fun t144 => (some t144)) = some r := h; clear h; replace H := Option.bind_eq_some_iff.mp H; obtain ⟨t144, A40, H⟩ := H
 replace H : (some t144) = some r := H
 have A4 := ak A40; clear A40; obtain rfl := Option.some.inj H
 go_enter Try.func56, Try.ntmps56
 go_wp2_with (first | ((with_reducible refine gate_dst (N := 3) rfl ?_); refine box_event ?hg (N := 3) ?hd (cs := #[.int .i64 a0_0, .int .i64 a0_1, .int .i64 a0_2, .slice A0_3 l0_3.length c0_3, .slice A0_4 l0_4.length c0_4]) (t := 24) ?hr ?_; (case hd => rfl); (case hg => rfl); (case hr => first | (go_simp; done) | (go_simp; rfl)); intro gb142 hg w5 hbox hb; have BK142 := ak (hbox); have GW142 := gw_ hg HB.1.size; have GE142 := gw_ hg HB.1.size; replace HB := ak (below_step HB.1 hb); clear hb hbox hg) | ((with_reducible refine gate_dst (N := 5) rfl ?_); refine box_event ?hg (N := 5) ?hd (cs := #[.slice A2_0 l2_0.length c2_0, .int .i64 a2_1]) (t := 27) ?hr ?_; (case hd => rfl); (case hg => rfl); (case hr => first | (go_simp; done) | (go_simp; rfl)); intro gb143 hg w6 hbox hb; have n0_ := ak (blk_below BK142.1 hb); have n1_ := ak (below_step HB.1 hb); have n2_ := ak (hbox); have n3_ := gw_ hg HB.1.size; have n4_ := gw_ hg HB.1.size; have n5_ := ak ((by rw [hg]; exact Nat.ne_of_lt (blk_lt BK142.1) : gb142 ≠ gb143)); have n6_ := ak ((by rw [hg]; exact Nat.ne_of_gt (blk_lt BK142.1) : gb143 ≠ gb142)); clear BK142 HB; have BK142 := n0_; have HB := n1_; have BK143 := n2_; have GW143 := n3_; have GE143 := n4_; have NB142_143 := n5_; have NB143_142 := n6_; clear n0_ n1_ n2_ n3_ n4_ n5_ n6_; clear hb hbox hg; have hnb7 := NB142_143.1; have hnc7 := NB143_142.1; obtain ⟨hcz8_0, hcz8_1, hcz8_2, hcz8_3, hcz8_4, hfz8_0, hfz8_1, hfz8_2, hfz8_3, hfz8_4⟩ := bk5 BK142.1; obtain ⟨hcz9_0, hcz9_1, hfz9_0, hfz9_1⟩ := bk2 BK143.1) | ((with_reducible refine gate_callee (f := 65) rfl ?_); refine goesL_ (some 10) rfl rfl Try.func65 (by kernel_rfl) rfl #[.agg #[.int .i64 a0_0, .int .i64 a0_1, .int .i64 a0_2, .slice A0_3 l0_3.length c0_3, .slice A0_4 l0_4.length c0_4], .slice A1 l1.length c1, .agg #[.slice A2_0 l2_0.length c2_0, .int .i64 a2_1], .bool false] rfl (sm_) ?_; (with_reducible refine (layout_shifts.calls a0_0 a0_1 a0_2 _ _ l0_3 _ _ l0_4 _ _ l1 _ _ l2_0 a2_1 false t144 _ ?side1 ?side2 ?side3 ?side4 ?side5 ?side6 ?side7 ?side8 A4.1).mono ?_); (case side1 => exact (Kd.C_below HR0_3.1 HB.1)); (case side2 => exact HC0_3.1); (case side3 => exact (Kd.C_below HR0_4.1 HB.1)); (case side4 => exact HC0_4.1); (case side5 => exact (Kd.C_below HR1.1 HB.1)); (case side6 => exact HC1.1); (case side7 => exact (Kd.C_below HR2_0.1 HB.1)); (case side8 => exact HC2_0.1); rintro e w10 ⟨v145, rfl, ho0, hb⟩; refine ⟨_, rfl, ?_⟩; replace BK142 := ak (blk_below BK142.1 hb); replace BK143 := ak (blk_below BK143.1 hb); have HO146 := ak (Kd.R_lower ho0 HB.1.size); replace HB := ak (below_step HB.1 hb); (try clear hb); (try clear ho0)))
 go_ret
 exact ⟨_, er_, by (with_reducible repeat (first | apply Kd.R_alloc | apply Kd.R_drewN | apply Kd.R_drew)); exact HO146.1, hq2_ HB.1 GE142.1 GE143.1⟩
end Go.Proofs.Ytogmjilaiopjmaa.P
end
section
namespace Go.Proofs.Ytogmjilaiopjmaa.P
open Go.RowKit Go.Proofs.YtogmjilaiopjmaaW.PrintWords Go.Proofs.YtogmjilaiopjmaaW.PrintLast Go.Proofs.YtogmjilaiopjmaaW.PrintMore
abbrev TT (w0 : World) (gO gQ gA n : Nat) (w : World) (qv : Value) (st : St) : Prop := TS w0 gO gQ gA n w qv st.1 (st.2.map fun x : Nat => (x : Int))
theorem reach_st (w0 w : World) (gO gQ gA n : Nat) (qv : Value) (st : St) (i : Nat) (v : Int) (h : TT w0 gO gQ gA n w qv st) (hi : i < n) (hn : n ≤ 1000000) (hl : st.2.length ≤ 1000000) :
  Calls Try.prog 55 #[.int .i64 (i : Int), .int .i64 v, .pointer (some ⟨gO, 0, none⟩), .pointer (some ⟨gQ, 0, none⟩)] w fun e w' => e = .returned (.tuple #[]) ∧ Kept3 gQ w w' ∧ ∃ qv', TT w0 gO gQ gA n w' qv' (reachP st i v) := by
 refine (reach_walk w0 w gO gQ gA n qv st.1 _ i v h hi hn (by simpa using hl)).mono ?_; rintro e w' ⟨he, hk, qv', ht⟩; refine ⟨he, hk, qv', ?_⟩
 unfold reachP
 by_cases hd : st.1.getD i 0 < 0
 ·rw [if_pos hd] at ht ⊢; rw [if_pos hd] at ht
  show TS w0 gO gQ gA n w' qv' (st.1.set i v) (List.map (fun x : Nat => (x : Int)) (st.2 ++ [i]))
  rw [List.map_append]; exact ht
 ·rw [if_neg hd] at ht ⊢; rw [if_neg hd] at ht; exact ht
set_option maxHeartbeats 1000000 in
theorem table_k1 (a0_0 : Int) (a0_1 : Int) (a0_2 : Int) (A0_3 : Option Addr) (c0_3 : Nat) (l0_3 : List Int) (A0_4 : Option Addr) (c0_4 : Nat) (l0_4 : List Int) (A1 : Option Addr) (c1 : Nat) (l1 : List Int) (k goal : Int) (w : World) (h : l1.length ≤ 12) (h1 : k < 1) :
  Calls Try.prog 16 #[.agg #[.int .i64 a0_0, .int .i64 a0_1, .int .i64 a0_2, .slice A0_3 l0_3.length c0_3, .slice A0_4 l0_4.length c0_4], .slice A1 l1.length c1, .int .i64 k, .int .i64 goal] w fun e w' => ∃ v0_ : Value, e = .returned (.tuple #[v0_, .int .i64 3]) ∧ Kd.R (Kd.int .i64) 3 w' w.heap.size (fun _ => True) v0_ [] ∧ Below w.heap.size w w' := by
 have HB := ak (Below.refl w.heap.size w); have y1 : decide ((l1.length : Int) > 12) = false := decide_eq_false (by omega); have y2 : decide (12 < l1.length) = false := decide_eq_false (by omega); have z0 : decide (k < 1) = true := decide_eq_true (by omega); clear h h1
 go_enter Try.func16, Try.ntmps16
 go_wp2_with (((with_reducible refine gate_dst (N := 4) rfl ?_); refine box_event ?hg (N := 4) ?hd (cs := #[.int .i64 a0_0, .int .i64 a0_1, .int .i64 a0_2, .slice A0_3 l0_3.length c0_3, .slice A0_4 l0_4.length c0_4]) (t := 24) ?hr ?_; (case hd => rfl); (case hg => rfl); (case hr => first | (go_simp; done) | (go_simp; rfl)); intro g4 hg w4 hbox hb; have GE4 := ak (show w.heap.size ≤ g4 by have := HB.1.size; omega); have n_HB := ak (below_step HB.1 hb); clear HB; have HB := n_HB; clear n_HB; have BK4 := ak hbox; clear hbox hb hg))
 go_ret2
 exact ⟨_, rfl, Kd.R_nil _ _ _ _ _, HB.1⟩
set_option maxHeartbeats 1000000 in
theorem table_k2 (a0_0 : Int) (a0_1 : Int) (a0_2 : Int) (A0_3 : Option Addr) (c0_3 : Nat) (l0_3 : List Int) (A0_4 : Option Addr) (c0_4 : Nat) (l0_4 : List Int) (A1 : Option Addr) (c1 : Nat) (l1 : List Int) (k goal : Int) (w : World) (h : l1.length ≤ 12) (h1 : 1 ≤ k) (h2 : (l1.length : Int) < k) :
  Calls Try.prog 16 #[.agg #[.int .i64 a0_0, .int .i64 a0_1, .int .i64 a0_2, .slice A0_3 l0_3.length c0_3, .slice A0_4 l0_4.length c0_4], .slice A1 l1.length c1, .int .i64 k, .int .i64 goal] w fun e w' => ∃ v0_ : Value, e = .returned (.tuple #[v0_, .int .i64 3]) ∧ Kd.R (Kd.int .i64) 3 w' w.heap.size (fun _ => True) v0_ [] ∧ Below w.heap.size w w' := by
 have HB := ak (Below.refl w.heap.size w); have y1 : decide ((l1.length : Int) > 12) = false := decide_eq_false (by omega); have y2 : decide (12 < l1.length) = false := decide_eq_false (by omega); have z0 : decide (k < 1) = false := decide_eq_false (by omega); have z1 : decide (k > (l1.length : Int)) = true := decide_eq_true (by omega); have zz1 : decide ((l1.length : Int) < k) = true := decide_eq_true (by omega); clear h h1 h2
 go_enter Try.func16, Try.ntmps16
 go_wp2_with (((with_reducible refine gate_dst (N := 4) rfl ?_); refine box_event ?hg (N := 4) ?hd (cs := #[.int .i64 a0_0, .int .i64 a0_1, .int .i64 a0_2, .slice A0_3 l0_3.length c0_3, .slice A0_4 l0_4.length c0_4]) (t := 24) ?hr ?_; (case hd => rfl); (case hg => rfl); (case hr => first | (go_simp; done) | (go_simp; rfl)); intro g4 hg w4 hbox hb; have GE4 := ak (show w.heap.size ≤ g4 by have := HB.1.size; omega); have n_HB := ak (below_step HB.1 hb); clear HB; have HB := n_HB; clear n_HB; have BK4 := ak hbox; clear hbox hb hg))
 go_ret2
 exact ⟨_, rfl, Kd.R_nil _ _ _ _ _, HB.1⟩
set_option maxHeartbeats 1000000 in
theorem table_g1 (a0_0 : Int) (a0_1 : Int) (a0_2 : Int) (A0_3 : Option Addr) (c0_3 : Nat) (l0_3 : List Int) (A0_4 : Option Addr) (c0_4 : Nat) (l0_4 : List Int) (A1 : Option Addr) (c1 : Nat) (l1 : List Int) (k goal : Int) (w : World) (h : l1.length ≤ 12) (h1 : 1 ≤ k) (h2 : k ≤ (l1.length : Int)) (h3 : goal < 0) :
  Calls Try.prog 16 #[.agg #[.int .i64 a0_0, .int .i64 a0_1, .int .i64 a0_2, .slice A0_3 l0_3.length c0_3, .slice A0_4 l0_4.length c0_4], .slice A1 l1.length c1, .int .i64 k, .int .i64 goal] w fun e w' => ∃ v0_ : Value, e = .returned (.tuple #[v0_, .int .i64 3]) ∧ Kd.R (Kd.int .i64) 3 w' w.heap.size (fun _ => True) v0_ [] ∧ Below w.heap.size w w' := by
 have HB := ak (Below.refl w.heap.size w); have y1 : decide ((l1.length : Int) > 12) = false := decide_eq_false (by omega); have y2 : decide (12 < l1.length) = false := decide_eq_false (by omega); have z0 : decide (k < 1) = false := decide_eq_false (by omega); have z1 : decide (k > (l1.length : Int)) = false := decide_eq_false (by omega); have zz1 : decide ((l1.length : Int) < k) = false := decide_eq_false (by omega); have z2 : decide (goal < 0) = true := decide_eq_true (by omega); clear h h1 h2 h3
 go_enter Try.func16, Try.ntmps16
 go_wp2_with (((with_reducible refine gate_dst (N := 4) rfl ?_); refine box_event ?hg (N := 4) ?hd (cs := #[.int .i64 a0_0, .int .i64 a0_1, .int .i64 a0_2, .slice A0_3 l0_3.length c0_3, .slice A0_4 l0_4.length c0_4]) (t := 24) ?hr ?_; (case hd => rfl); (case hg => rfl); (case hr => first | (go_simp; done) | (go_simp; rfl)); intro g4 hg w4 hbox hb; have GE4 := ak (show w.heap.size ≤ g4 by have := HB.1.size; omega); have n_HB := ak (below_step HB.1 hb); clear HB; have HB := n_HB; clear n_HB; have BK4 := ak hbox; clear hbox hb hg))
 go_ret2
 exact ⟨_, rfl, Kd.R_nil _ _ _ _ _, HB.1⟩
set_option maxHeartbeats 1000000 in
theorem table_g2 (a0_0 : Int) (a0_1 : Int) (a0_2 : Int) (A0_3 : Option Addr) (c0_3 : Nat) (l0_3 : List Int) (A0_4 : Option Addr) (c0_4 : Nat) (l0_4 : List Int) (A1 : Option Addr) (c1 : Nat) (l1 : List Int) (k goal : Int) (w : World) (h : l1.length ≤ 12) (h1 : 1 ≤ k) (h2 : k ≤ (l1.length : Int)) (h3 : 0 ≤ goal) (h4 : (l1.length : Int) ≤ goal) :
  Calls Try.prog 16 #[.agg #[.int .i64 a0_0, .int .i64 a0_1, .int .i64 a0_2, .slice A0_3 l0_3.length c0_3, .slice A0_4 l0_4.length c0_4], .slice A1 l1.length c1, .int .i64 k, .int .i64 goal] w fun e w' => ∃ v0_ : Value, e = .returned (.tuple #[v0_, .int .i64 3]) ∧ Kd.R (Kd.int .i64) 3 w' w.heap.size (fun _ => True) v0_ [] ∧ Below w.heap.size w w' := by
 have HB := ak (Below.refl w.heap.size w); have y1 : decide ((l1.length : Int) > 12) = false := decide_eq_false (by omega); have y2 : decide (12 < l1.length) = false := decide_eq_false (by omega); have z0 : decide (k < 1) = false := decide_eq_false (by omega); have z1 : decide (k > (l1.length : Int)) = false := decide_eq_false (by omega); have zz1 : decide ((l1.length : Int) < k) = false := decide_eq_false (by omega); have z2 : decide (goal < 0) = false := decide_eq_false (by omega); have z3 : decide (goal ≥ (l1.length : Int)) = true := decide_eq_true (by omega); have zz3 : decide ((l1.length : Int) ≤ goal) = true := decide_eq_true (by omega); clear h h1 h2 h3 h4
 go_enter Try.func16, Try.ntmps16
 go_wp2_with (((with_reducible refine gate_dst (N := 4) rfl ?_); refine box_event ?hg (N := 4) ?hd (cs := #[.int .i64 a0_0, .int .i64 a0_1, .int .i64 a0_2, .slice A0_3 l0_3.length c0_3, .slice A0_4 l0_4.length c0_4]) (t := 24) ?hr ?_; (case hd => rfl); (case hg => rfl); (case hr => first | (go_simp; done) | (go_simp; rfl)); intro g4 hg w4 hbox hb; have GE4 := ak (show w.heap.size ≤ g4 by have := HB.1.size; omega); have n_HB := ak (below_step HB.1 hb); clear HB; have HB := n_HB; clear n_HB; have BK4 := ak hbox; clear hbox hb hg))
 go_ret2
 exact ⟨_, rfl, Kd.R_nil _ _ _ _ _, HB.1⟩
theorem reachP_keep {st : St} {i r : Nat} {v : Int} (h : 0 ≤ st.1.getD r 0) : (reachP st i v).1.getD r 0 = st.1.getD r 0 := by
 unfold reachP
 split
 ·rename_i hn
  by_cases e : i = r
  ·subst e; omega
  ·simp [List.getD_eq_getElem?_getD, List.getElem?_set, e]
 ·rfl
theorem add_zero_at (a : Addr) : a.add 0 = a := by
 obtain ⟨b, o, p⟩ := a
 cases p <;> simp [Addr.add]
theorem alloc3 (w : World) (o1 o2 o3 : Obj) : (((w.alloc o1).alloc o2).alloc o3).heap[w.heap.size]? = some o1 ∧ (((w.alloc o1).alloc o2).alloc o3).heap[w.heap.size + 1]? = some o2 ∧ (((w.alloc o1).alloc o2).alloc o3).heap[w.heap.size + 1 + 1]? = some o3 := by
 refine ⟨blk_alloc (alloc2_fst w o1 o2) o3, blk_alloc (alloc2_snd w o1 o2) o3, ?_⟩; have h := blk_new ((w.alloc o1).alloc o2) o3
 rwa [show ((w.alloc o1).alloc o2).heap.size = w.heap.size + 1 + 1 by simp] at h
theorem R_kept3 {α : Type} {d : Kd α} {e : Nat} {w w' : World} {base : Nat} {ok : Nat → Prop} {v : Value} {xs : List α} {gQ : Nat} {cs : Array Value} (h : d.R e w base ok v xs) (ht : ∀ q, q ∈ e :: d.E → q ≠ 3 ∧ q ≠ 22) (hk : Kept3 gQ w w') (bQ : w.heap[gQ]? = some (.cells cs 22 (0, 0))) : d.R e w' base ok v xs := by
 refine Kd.R_mono (Kd.R_move (Kd.R_bound h) (fun k hk' => ?_)) (fun _ hk' => hk'.1); obtain ⟨_, _, _, q, hq, cells, hc⟩ := hk'; rw [hc]; exact hk k cells q hc (ht q hq).1 (blk_ne hc bQ (ht q hq).2)
theorem TS.box {w0 w : World} {gO gQ gA n g t : Nat} {qv : Value} {out q : List Int} {cs : Array Value} (h : TS w0 gO gQ gA n w qv out q) (hb : w.heap[g]? = some (.cells cs t (0, 0))) (h3 : t ≠ 3) (h22 : t ≠ 22) (hge : w0.heap.size ≤ g) (j : Nat) (u : Value) : TS w0 gO gQ gA n (w.setCell ⟨g, j, none⟩ u) qv out q :=
 ⟨below_set h.below hge, blk_far h.bO (p := ⟨g, j, none⟩) (blk_ne h.bO hb (Ne.symm h22)) u, blk_far h.bQ (p := ⟨g, j, none⟩) (blk_ne h.bQ hb (Ne.symm h22)) u, RowBlk.far h.bA (p := ⟨g, j, none⟩) (blk_ne h.bA hb (Ne.symm h3)) u, h.ln, h.ge, h.ne, Kd.Q_set h.hq hb (by intro r hr; simp [Kd.int, Kd.scalar] at hr; subst hr; exact Ne.symm h3) j u⟩
theorem TS.setq {w0 w : World} {gO gQ gA n : Nat} {qv v1 : Value} {out q q1 : List Int} (h : TS w0 gO gQ gA n w qv out q) (hQ : Kd.Q (Kd.int .i64) 3 w w0.heap.size (fun k => k ≠ gA) v1 q1) : TS w0 gO gQ gA n (w.setCell ⟨gQ, 0, none⟩ v1) v1 out q1 :=
 ⟨below_set h.below h.ge.2, blk_far h.bO (p := ⟨gQ, 0, none⟩) h.ne v1, by have := blk_set h.bQ 0 v1; simpa using this, RowBlk.far h.bA (p := ⟨gQ, 0, none⟩) (Ne.symm h.nQA) v1, h.ln, h.ge, h.ne, Kd.Q_set hQ h.bQ (by intro r hr; simp [Kd.int, Kd.scalar] at hr; subst hr; decide) 0 v1⟩
set_option maxHeartbeats 4000000 in
set_option maxRecDepth 100000 in
theorem table_ok (a0_0 : Int) (a0_1 : Int) (a0_2 : Int) (A0_3 : Option Addr) (c0_3 : Nat) (l0_3 : List Int) (A0_4 : Option Addr) (c0_4 : Nat) (l0_4 : List Int) (A1 : Option Addr) (c1 : Nat) (l1 : List Int) (k g : Nat) (out : List Int) (w : World) (hr0_3 : Kd.C (Kd.int .i64) w A0_3 l0_3.length l0_3) (hc0_3 : l0_3.length ≤ c0_3) (hr0_4 : Kd.C (Kd.int .i64) w A0_4 l0_4.length l0_4) (hc0_4 : l0_4.length ≤ c0_4) (hr1 : Kd.C (Kd.int .i64) w A1 l1.length l1) (hc1 : l1.length ≤ c1) (hn : l1.length ≤ 12) (hk1 : 1 ≤ k) (hk2 : k ≤ l1.length) (hg : g < l1.length) (h : bfsP a0_0 a0_1 a0_2 l0_3 l0_4 l1 l1.length k (cntN l1.length k + 1) (initP l1.length k (g : Int) (cntN l1.length k)).1 (initP l1.length k (g : Int) (cntN l1.length k)).2 = some out) :
  Calls Try.prog 16 #[.agg #[.int .i64 a0_0, .int .i64 a0_1, .int .i64 a0_2, .slice A0_3 l0_3.length c0_3, .slice A0_4 l0_4.length c0_4], .slice A1 l1.length c1, .int .i64 (k : Int), .int .i64 (g : Int)] w fun e w' => ∃ v0_ : Value, e = .returned (.tuple #[v0_, .int .i64 0]) ∧ Kd.R (Kd.int .i64) 3 w' w.heap.size (fun _ => True) v0_ out ∧ Below w.heap.size w w' := by
 have hu24 := Try.underlying24; have hu27 := Try.underlying27; have hu51 := Try.underlying51; have HB := ak (Below.refl w.heap.size w); have HR3 := ak hr0_3; have HC3 := ak hc0_3; have HR4 := ak hr0_4; have HC4 := ak hc0_4; have HR1 := ak hr1; have HC1 := ak hc1; have HBF := ak h; have HN := ak hn; have HCN := ak (cntN_small (k := k) hn)
 have HCC := ak (show cnt (l1.length : Int) (k : Int) = (cntN l1.length k : Int) by
  unfold cnt cntN
  rw [if_neg (by omega), if_neg (by omega), if_neg (by omega), if_neg (by omega), show ((l1.length : Int) - 1).toNat = l1.length - 1 by omega, show ((k : Int) - 1).toNat = k - 1 by omega]
  simp)
 have y1 : decide ((l1.length : Int) > 12) = false := decide_eq_false (by omega); have y2 : decide (12 < l1.length) = false := decide_eq_false (by omega); have z1 : decide ((k : Int) < 1) = false := decide_eq_false (by omega); have z2 : decide ((k : Int) > (l1.length : Int)) = false := decide_eq_false (by omega); have z3 : decide (l1.length < k) = false := decide_eq_false (by omega); have z4 : decide ((g : Int) < 0) = false := decide_eq_false (by omega); have z5 : decide ((g : Int) ≥ (l1.length : Int)) = false := decide_eq_false (by omega); have z6 : decide (l1.length ≤ g) = false := decide_eq_false (by omega); have HK1 := ak hk1; have HK2 := ak hk2; have HG := ak hg; clear hr0_3 hc0_3 hr0_4 hc0_4 hr1 hc1 h hk1 hk2 hg hn; obtain ⟨m, hm⟩ : ∃ m, m = cntN l1.length k := ⟨_, rfl⟩; rw [← hm] at HBF HCN HCC
 have m1 : (m : Int) ≤ 24576 := by have := HCN.1; omega
 have HM := ak hm; clear hm; have hmk : ∀ W : World, (Instr.makeSlice 22 (.int .i64 (m : Int)) (.int .i64 (m : Int))).run Try.prog W = .ok (.slice (some ⟨W.heap.size, 0, none⟩) m m) (W.alloc (.cells (madeCells #[.int .i64 0] m) 3)) := fun W => run_make_row' 22 3 (.int .i64 0) 8 Try.underlying22 info3 rfl .i64 .i64 m (by omega) (by omega) W; have hmf : ∀ (fn : Fn) (first cap : Array Value) (w : World), (Instr.makeFunc fn first cap).run Try.prog w = .ok (.func fn first cap) w := fun _ _ _ _ => rfl
 go_enter Try.func16, Try.ntmps16
 go_upto_region 8 with (first | ((with_reducible refine gate_dst (N := 4) rfl ?_); refine box_event ?hg (N := 4) ?hd (cs := #[.int .i64 a0_0, .int .i64 a0_1, .int .i64 a0_2, .slice A0_3 l0_3.length c0_3, .slice A0_4 l0_4.length c0_4]) (t := 24) ?hr ?_; (case hd => rfl); (case hg => rfl); (case hr => first | (go_simp; done) | (go_simp; rfl)); intro g4 hg w4 hbox hb; have GE4 := ak (show w.heap.size ≤ g4 by have := HB.1.size; omega); have n_HB := ak (below_step HB.1 hb); clear HB; have HB := n_HB; clear n_HB; have BK4 := ak hbox; clear hbox hb hg) | (go_at_call 27; refine (layout_Count.calls _ _ _ _ rfl).mono ?_; rintro e w27 ⟨rfl, hb⟩; rw [HCC.1]; have n_BK4 := ak (blk_below BK4.1 hb); have n_HB := ak (below_step HB.1 hb); clear BK4; clear HB; have BK4 := n_BK4; have HB := n_HB; clear n_BK4 n_HB; clear hb))
 have h3 := alloc3 w27 (.cells (madeCells #[.int .i64 0] m) 3) (.cells #[.slice (some ⟨w27.heap.size, 0, none⟩) m m] 22) (.cells #[.slice none 0 0] 22); have hB3 := below_alloc (below_alloc (below_alloc HB.1 (.cells (madeCells #[.int .i64 0] m) 3)) (.cells #[.slice (some ⟨w27.heap.size, 0, none⟩) m m] 22)) (.cells #[.slice none 0 0] 22); have hK3 := blk_alloc (blk_alloc (blk_alloc BK4.1 (.cells (madeCells #[.int .i64 0] m) 3)) (.cells #[.slice (some ⟨w27.heap.size, 0, none⟩) m m] 22)) (.cells #[.slice none 0 0] 22); have hsz := HB.1.size; generalize ((w27.alloc (.cells (madeCells #[.int .i64 0] m) 3)).alloc (.cells #[.slice (some ⟨w27.heap.size, 0, none⟩) m m] 22)).alloc (.cells #[.slice none 0 0] 22) = W3 at h3 hB3 hK3 ⊢; generalize hgQ : w27.heap.size + 1 + 1 = gQ at *; generalize hgO : w27.heap.size + 1 = gO at *; generalize hgA : w27.heap.size = gA at *; have HT := ak (show TT w gO gQ gA m W3 (.slice none 0 0) (initP l1.length k (g : Int) 0) from ⟨hB3, h3.2.1, h3.2.2, by have := h3.1; rw [made_ints, HM.1] at this; exact this, by rw [initP_len]; exact HM.1.symm, ⟨by omega, by omega⟩, by omega, Kd.Q_nil _ _ _ _ _⟩); have BK4 := ak hK3; clear h3 hB3 hK3 hsz hgO hgQ HB; have e0 := blk_cell HT.1.bO 0
 try simp at e0
 go_upto_region 9 with fail
 clear e0
 go_loopg [52] m (fun kq v52 w' => ∃ (i : Nat) (qv : Value), v52 = .int .i64 (i : Int) ∧ Aside0 (kq + i = m) ∧ Aside0 (TT w gO gQ gA m w' qv (initP l1.length k (g : Int) i)) ∧ Aside0 (w'.heap[g4]? = some (.cells #[.int .i64 a0_0, .int .i64 a0_1, .int .i64 a0_2, .slice A0_3 l0_3.length c0_3, .slice A0_4 l0_4.length c0_4] 24 (0, 0))))
 case atStart => exact ⟨0, _, rfl, ⟨by omega⟩, HT, BK4⟩
 case round =>
  clear BK4 HT; obtain ⟨i, qv, rfl, HI, HT, BK4⟩ := hrel
  by_cases hi : i < m
  ·have y1 : decide ((i : Int) < (m : Int)) = true := decide_eq_true (by omega)
   have y2 : (i : Int) < (m : Int) := by omega
   have y2' : i < m := hi; have HQL := ak (show (initP l1.length k (g : Int) i).2.length ≤ 24576 by have := initP_qlen l1.length k (g : Int) i; have := HCN.1; omega); have e0 := blk_cell HT.1.bO 0; have cA := RowBlk.cell HT.1.bA 0 i (by rw [HT.1.ln]; exact hi); have fA := RowBlk.free HT.1.bA i
   try simp at e0
   obtain ⟨d, hd⟩ : ∃ d, d = (initP l1.length k (g : Int) i).1.getD i 0 := ⟨_, rfl⟩; rw [← hd] at cA; clear hd; have HT2 := ak (HT.1.put i (-1)); have BK2 := ak (Kept3.put HT.1 i (.int .i64 (-1)) _ _ _ BK4.1 (by decide) (blk_ne BK4.1 HT.1.bQ (by decide)))
   have HUN := ak (show layout_Unrank.f (l1.length : Int) (k : Int) (i : Int) = some (unrL l1.length k i, (unrT l1.length k i : Int), true) by
    unfold layout_Unrank.f
    rw [if_pos ⟨by omega, by rw [HCC.1]; exact y2⟩]
    simp)
   go_upto_region 13 with (first | (go_at_call 28; refine (layout_Unrank.calls _ _ _ _ _ _ _ HUN.1).mono ?_; rintro e w28 ⟨v28, rfl, hR, hb⟩; obtain ⟨Al, cl, hv⟩ := Kd.R_slice hR; subst hv; have HL := ak (Kd.R_lower hR HT2.1.le); have HT3 := ak (HT2.1.step hb); have BK3 := ak (blk_below BK2.1 hb); clear hR hb) | ((with_reducible refine gate_dst (N := 14) rfl ?_); refine box_event ?hg (N := 14) ?hd (cs := #[.slice none 0 0, .int .i64 0]) (t := 27) ?hr ?_; (case hd => rfl); (case hg => rfl); (case hr => first | (go_simp; done) | (go_simp; rfl)); intro g14 hg w14 hbox hb; have HT4 := ak (HT3.1.step hb); have BK4' := ak (blk_below BK3.1 hb); have HL4 := ak (Kd.R_below HL.1 hb); have GE14 := ak (show w.heap.size ≤ g14 by have := HT3.1.le; omega); have BL := ak hbox; have b0 := blk_cell hbox 0; have b1 := blk_cell hbox 1; have f0 := blk_frozen hbox 0; have f1 := blk_frozen hbox 1; (try simp at b0 b1); clear hbox hb hg))
   have BL2 := ak (blk_put (blk_put BL.1 0 (.slice Al (unrL l1.length k i).length cl) rfl) 1 (.int .i64 (unrT l1.length k i : Int)) rfl); have HT5 := ak (((HT4.1.box BL.1 (by decide) (by decide) GE14.1 0 (.slice Al (unrL l1.length k i).length cl)).box (blk_put BL.1 0 (.slice Al (unrL l1.length k i).length cl) rfl) (by decide) (by decide) GE14.1 1 (.int .i64 (unrT l1.length k i : Int)))); have BK5 := ak (blk_far (blk_far BK4'.1 (p := ⟨g14, 0, none⟩) (blk_ne BK4'.1 BL.1 (by decide)) (.slice Al (unrL l1.length k i).length cl)) (p := ⟨g14, 1, none⟩) (blk_ne BK4'.1 BL.1 (by decide)) (.int .i64 (unrT l1.length k i : Int))); generalize (w14.setCell ⟨g14, 0, none⟩ (.slice Al (unrL l1.length k i).length cl)).setCell ⟨g14, 1, none⟩ (.int .i64 (unrT l1.length k i : Int)) = w15 at BL2 HT5 BK5 ⊢; clear b0 b1 f0 f1 BL HT4 BK4' HT3 BK3 HT2 BK2 HT BK4; have b1 := blk_cell BL2.1 1
   try simp at b1
   obtain ⟨tt, htt⟩ : ∃ x, x = unrT l1.length k i := ⟨_, rfl⟩; rw [← htt] at b1; have HTT := ak htt; clear htt
   by_cases hx : (tt : Int) = (g : Int)
   ·have z7 : ((tt : Int) == (g : Int)) = true := beq_iff_eq.2 hx
    have z8 : tt = g := by omega
    have HX := ak hx; clear hx
    go_wp2_with (go_at_call 55; go_loud (refine (reach_st w _ gO gQ gA m qv ((initP l1.length k (g : Int) i).1.set i (-1), (initP l1.length k (g : Int) i).2) i 0 HT5.1 y2' (by have := HCN.1; omega) (Nat.le_trans HQL.1 (by omega))).mono ?_); rintro e w55 ⟨rfl, hk, qv', hT⟩; have HT6 := ak hT; have BK6 := ak (hk _ _ _ BK5.1 (by decide) (blk_ne BK5.1 HT5.1.bQ (by decide))); clear hT hk)
    go_roundg (gk - 1)
    case measure => have := HI.1; omega
    case rel => exact ⟨i + 1, qv', by first | rfl | simp, ⟨by have := HI.1; omega⟩, ⟨by simp only [initP]; rw [if_pos (by rw [← HTT.1]; exact HX.1)]; exact HT6.1⟩, BK6⟩
   ·have z7 : ((tt : Int) == (g : Int)) = false := beq_eq_false_iff_ne.2 hx
    have z8 : ¬ tt = g := by omega
    have HX := ak hx; clear hx
    go_wp2_with fail
    go_roundg (gk - 1)
    case measure => have := HI.1; omega
    case rel => exact ⟨i + 1, qv, by first | rfl | simp, ⟨by have := HI.1; omega⟩, ⟨by simp only [initP]; rw [if_neg (by rw [← HTT.1]; exact HX.1)]; exact HT5.1⟩, BK5⟩
  ·have hie : i = m := by have := HI.1; omega
   have y1 : decide ((i : Int) < (m : Int)) = false := decide_eq_false (by omega); have y3 : decide (i < m) = false := decide_eq_false (by omega)
   have y2 : (m : Int) ≤ (i : Int) := by omega
   rw [hie] at HT; clear hie hi; obtain ⟨st, hst⟩ : ∃ st, st = initP l1.length k (g : Int) m := ⟨_, rfl⟩; rw [← hst] at HT; have HBG := ak (show bfsP a0_0 a0_1 a0_2 l0_3 l0_4 l1 l1.length k (m + 1) st.1 st.2 = some out by rw [hst]; exact HBF.1); clear hst HBF
   go_upto_region 16 with fail
   go_loopg [] (m + 1) (fun kq w' => ∃ (st : St) (qv : Value), Aside0 (bfsP a0_0 a0_1 a0_2 l0_3 l0_4 l1 l1.length k kq st.1 st.2 = some out) ∧ Aside0 (TT w gO gQ gA m w' qv st) ∧ Aside0 (w'.heap[g4]? = some (.cells #[.int .i64 a0_0, .int .i64 a0_1, .int .i64 a0_2, .slice A0_3 l0_3.length c0_3, .slice A0_4 l0_4.length c0_4] 24 (0, 0))))
   case atStart => exact ⟨st, qv, HBG, HT, BK4⟩
   case round =>
    clear BK4 HT HBG; obtain ⟨⟨o, q⟩, qv, HBG, HT, BK4⟩ := hrel; have HB := ak HT.1.below; obtain ⟨Aq, cq, hqv, hqc⟩ := Kd.Q_slice HT.1.hq; rw [List.length_map] at hqv; subst hqv; have e0 := blk_cell HT.1.bO 0; have e1 := blk_cell HT.1.bQ 0
    try simp at e0 e1
    obtain ⟨f, rfl⟩ : ∃ f, gk = f + 1 := by
     cases gk with
     | zero => have := HBG.1; simp [bfsP] at this
     | succ f => exact ⟨f, rfl⟩
    cases q with
    | nil =>
     have HO := ak (show o = out by have := HBG.1; simp only [bfsP] at this; injection this)
     go_wp2_with fail
     go_ret2
     exact ⟨_, rfl, by
      have h := RowBlk.ofR (h1 := fun _ => rfl) HT.1.bA HT.1.ge.1 (ok := fun _ => True) trivial (by rw [HT.1.ln]; omega); rw [HT.1.ln] at h; rw [← HO.1]
      exact h, HB.1⟩
    | cons rank q =>
     rw [List.length_cons] at *; have hC := (Kd.Q_reads' HT.1.hq).2.2; obtain ⟨ad, hAq, hcq⟩ := int_cells hC (by simp); subst hAq; have cq0 := hcq 0 (by simp); rw [add_zero_at] at cq0
     simp at cq0
     clear hC hcq
     go_upto_region 18 with fail
     go_cut [] from 80 to 82 (fun wc => ∃ (qv2 : Value), Aside0 (TT w gO gQ gA m wc qv2 (o, q)) ∧ Aside0 (wc.heap[g4]? = some (.cells #[.int .i64 a0_0, .int .i64 a0_1, .int .i64 a0_2, .slice A0_3 l0_3.length c0_3, .slice A0_4 l0_4.length c0_4] 24 (0, 0))))
     case first =>
      have hd := Kd.Q_drop (k := 1) HT.1.hq (by simp); rw [List.map_cons, List.drop_succ_cons, List.drop_zero] at hd; have HS2 := ak (HT.1.setq hd); have BK2 := ak (blk_far (p := ⟨gQ, 0, none⟩) BK4.1 (blk_ne BK4.1 HT.1.bQ (by decide))); clear hd; have f1 := blk_frozen HT.1.bQ 0
      have hqc' : q.length + 1 ≤ cq := by simpa using hqc
      by_cases hcq1 : cq = 1
      ·subst hcq1; have hq0 : q = [] := List.eq_nil_of_length_eq_zero (by omega); subst hq0
       simp at HS2
       go_wp2_with fail
       go_meet
       case rel => exact ⟨_, HS2, ⟨BK2.1 _⟩⟩
      ·rw [if_neg hcq1] at HS2
       have hc1 : 1 < cq := by omega
       go_wp2_with fail
       go_meet
       case rel => exact ⟨_, HS2, ⟨BK2.1 _⟩⟩
     case rest =>
      clear e0 e1 HT BK4; obtain ⟨qv, HT, BK4⟩ := hcut; have hbf := HBG.1; simp only [bfsP] at hbf
      split at hbf
      case isFalse => cases hbf
      rename_i hcond
      obtain ⟨ss, hss, hbf⟩ := Option.bind_eq_some_iff.1 hbf; obtain ⟨st2, hst2, hbf⟩ := Option.bind_eq_some_iff.1 hbf; have HBF := ak hbf; have HST := ak hst2; have HSS := ak (show layout_Backs.f a0_0 a0_1 a0_2 l0_3 l0_4 l1 (unrL l1.length k rank) (unrT l1.length k rank : Int) = some ss by unfold layout_Backs.f; rw [hss]; rfl); rw [← HM.1] at hcond; have HRK := ak hcond.1
      have y4 : (rank : Int) < (m : Int) := by have := hcond.1; omega
      have y5 : rank < m := hcond.1; have HUL := ak (show (unrL l1.length k rank).length = l1.length from unrL_len (by rw [← HM.1]; exact hcond.1))
      have HUN := ak (show layout_Unrank.f (l1.length : Int) (k : Int) (rank : Int) = some (unrL l1.length k rank, (unrT l1.length k rank : Int), true) by
       unfold layout_Unrank.f
       rw [if_pos ⟨by omega, by rw [HCC.1]; exact y4⟩]
       simp)
      clear hbf hst2 hss hcond HBG; generalize hul : unrL l1.length k rank = ul at HUL HUN HSS HST; generalize hut : (unrT l1.length k rank : Int) = ut at HUN HSS HST; clear hul hut
      go_upto_region 20 with (first | (go_at_call 28; refine (layout_Unrank.calls _ _ _ _ _ _ _ HUN.1).mono ?_; rintro e w28 ⟨v28, rfl, hR, hb⟩; obtain ⟨Al, cl, hv⟩ := Kd.R_slice hR; subst hv; have HL := ak (Kd.R_lower hR HT.1.le); have HT3 := ak (HT.1.step hb); have BK3 := ak (blk_below BK4.1 hb); clear hR hb) | ((with_reducible refine gate_dst (N := 17) rfl ?_); refine box_event ?hg (N := 17) ?hd (cs := #[.slice none 0 0, .int .i64 0]) (t := 27) ?hr ?_; (case hd => rfl); (case hg => rfl); (case hr => first | (go_simp; done) | (go_simp; rfl)); intro g17 hg w17 hbox hb; have HT4 := ak (HT3.1.step hb); have BK4' := ak (blk_below BK3.1 hb); have HL4 := ak (Kd.R_below HL.1 hb); have GE17 := ak (show w.heap.size ≤ g17 by have := HT3.1.le; omega); have BL := ak hbox; have b0 := blk_cell hbox 0; have b1 := blk_cell hbox 1; have f0 := blk_frozen hbox 0; have f1 := blk_frozen hbox 1; (try simp at b0 b1); clear hbox hb hg))
      have BL2 := ak (blk_put (blk_put BL.1 0 (.slice Al ul.length cl) rfl) 1 (.int .i64 ut) rfl); have HT5 := ak (((HT4.1.box BL.1 (by decide) (by decide) GE17.1 0 (.slice Al ul.length cl)).box (blk_put BL.1 0 (.slice Al ul.length cl) rfl) (by decide) (by decide) GE17.1 1 (.int .i64 ut))); have BK5 := ak (blk_far (blk_far BK4'.1 (p := ⟨g17, 0, none⟩) (blk_ne BK4'.1 BL.1 (by decide)) (.slice Al ul.length cl)) (p := ⟨g17, 1, none⟩) (blk_ne BK4'.1 BL.1 (by decide)) (.int .i64 ut)); have HL5 := ak (Kd.R_far (Kd.R_far (Kd.R_types HL4.1 BL.1 (by decide)) (p := ⟨g17, 0, none⟩) (fun k hk => hk.2) (.slice Al ul.length cl)) (p := ⟨g17, 1, none⟩) (fun k hk => hk.2) (.int .i64 ut)); generalize (w17.setCell ⟨g17, 0, none⟩ (.slice Al ul.length cl)).setCell ⟨g17, 1, none⟩ (.int .i64 ut) = w18 at BL2 HT5 BK5 HL5 ⊢; clear b0 b1 f0 f1 BL HT4 BK4' HL4 HT3 BK3 HL HT BK4; have e40 := blk_cell BK5.1 0; have e41 := blk_cell BK5.1 1; have e42 := blk_cell BK5.1 2; have e43 := blk_cell BK5.1 3; have e44 := blk_cell BK5.1 4; have e60 := blk_cell BL2.1 0; have e61 := blk_cell BL2.1 1
      try simp at e40 e41 e42 e43 e44 e60 e61
      go_wp2_with (go_at_call 56; go_loud (refine (layout_Backs.calls a0_0 a0_1 a0_2 _ _ l0_3 _ _ l0_4 _ _ l1 _ _ ul ut ss _ (Kd.C_below HR3.1 HT5.1.below) HC3.1 (Kd.C_below HR4.1 HT5.1.below) HC4.1 (Kd.C_below HR1.1 HT5.1.below) HC1.1 (Kd.R_reads' HL5.1).2.2 (Kd.R_reads' HL5.1).2.1 HSS.1).mono ?_); rintro e w56 ⟨v56, rfl, hR, hb⟩; obtain ⟨As, cs, hv⟩ := Kd.R_slice hR; subst hv; have HS6 := ak (Kd.R_lower hR HT5.1.le); have HT6 := ak (HT5.1.step hb); have BK6 := ak (blk_below BK5.1 hb); have BL6 := ak (blk_below BL2.1 hb); have HL6 := ak (Kd.R_below HL5.1 hb); clear hR hb)
      clear e40 e41 e42 e43 e44 e60 e61 HT5 BK5 BL2 HL5
      go_loopg [95] ss.length (fun kr v95 w' => ∃ (j : Nat) (qv : Value) (st1 : St), v95 = .int .i64 (j : Int) ∧ Aside0 (kr + j = ss.length) ∧ Aside0 (TT w gO gQ gA m w' qv st1) ∧ Aside0 (backsP ul ut rank st1 (ss.drop j) = some st2) ∧ Aside0 (w'.heap[g4]? = some (.cells #[.int .i64 a0_0, .int .i64 a0_1, .int .i64 a0_2, .slice A0_3 l0_3.length c0_3, .slice A0_4 l0_4.length c0_4] 24 (0, 0))) ∧ Aside0 (w'.heap[g17]? = some (.cells #[.slice Al ul.length cl, .int .i64 ut] 27 (0, 0))) ∧ Aside0 (Kd.R Kd.bool 4 w' w.heap.size (fun _ => True) (.slice Al ul.length cl) ul) ∧ Aside0 (Kd.R k51 51 w' w.heap.size (fun _ => True) (.slice As ss.length cs) ss))
      case atStart => exact ⟨0, _, (o, q), rfl, ⟨by omega⟩, HT6, ⟨by rw [List.drop_zero]; exact HST.1⟩, BK6, BL6, ⟨Kd.R_mono HL6.1 (fun _ _ => trivial)⟩, HS6⟩
      case round =>
       clear HT6 HST BK6 BL6 HL6 HS6; obtain ⟨j, qv, st1, rfl, HJ, HT, HST, BK4, BK17, HL, HS⟩ := hrel
       by_cases hj : j < ss.length
       ·have y6 : decide ((j : Int) < (ss.length : Int)) = true := decide_eq_true (by omega); have y7 : decide (j < ss.length) = true := decide_eq_true hj
        have y8 : (j : Int) < (ss.length : Int) := by omega
        obtain ⟨s, hs⟩ : ∃ s, s = ss[j] := ⟨_, rfl⟩; have hst := HST.1; rw [List.drop_eq_getElem_cons hj, ← hs] at hst; simp only [backsP] at hst; obtain ⟨st3, hst3, hst⟩ := Option.bind_eq_some_iff.1 hst; have HST2 := ak hst; clear hst HST
        unfold backP at hst3
        obtain ⟨⟨fb, tb, eb⟩, hdo, hst3⟩ := Option.bind_eq_some_iff.1 hst3; obtain ⟨mm, hmm, hst3⟩ := Option.bind_eq_some_iff.1 hst3; have HDO := ak hdo; have HMM := ak hmm
        split at hst3
        case isFalse => cases hst3
        rename_i hcond
        injection hst3 with hst3
        have HCO := ak hcond; have HS3 := ak hst3; clear hdo hmm hcond hst3; obtain ⟨ads, e, c0, c1⟩ := at_T51 (Kd.R_reads' HS.1).2.2 (j : Int) (by omega) (by omega); subst e; rw [Int.toNat_natCast] at c0 c1
        have hrd : rd_T51 ss (j : Int) = s := by
         unfold rd_T51
         rw [Int.toNat_natCast, List.getD_eq_getElem?_getD, List.getElem?_eq_getElem hj, hs]; rfl
        rw [hrd] at c0 c1; clear hrd hs; have HB := ak HT.1.below
        go_upto_region 23 with ((with_reducible refine gate_dst (N := 20) rfl ?_); refine box_event ?hg (N := 20) ?hd (cs := #[.int .i64 0, .int .i64 0]) (t := 51) ?hr ?_; (case hd => rfl); (case hg => rfl); (case hr => first | (go_simp; done) | (go_simp; rfl)); intro g20 hg w20 hbox hb; have GE20 := ak (show w.heap.size ≤ g20 by have := HB.1.size; omega); have NE20_4 := ak (show g20 ≠ g4 by have := blk_lt BK4.1; omega); have NE20_17 := ak (show g20 ≠ g17 by have := blk_lt BK17.1; omega); have n_BK4 := ak (blk_below BK4.1 hb); have n_BK17 := ak (blk_below BK17.1 hb); have n_HT := ak (HT.1.step hb); have n_HL := ak (Kd.R_below HL.1 hb); have n_HS := ak (Kd.R_below (Kd.R_elderB HS.1 g20 (by omega)) hb); have n_HB := ak (below_step HB.1 hb); clear BK4; clear BK17; clear HT; clear HL; clear HS; clear HB; have BK4 := n_BK4; have BK17 := n_BK17; have HT := n_HT; have HL := n_HL; have HS := n_HS; have HB := n_HB; clear n_BK4 n_BK17 n_HT n_HL n_HS n_HB; have BK20 := ak hbox; clear hbox hb hg; have b0 := blk_cell BK20.1 0; have b1 := blk_cell BK20.1 1; have f0 := blk_frozen BK20.1 0; have f1 := blk_frozen BK20.1 1; (try simp at b0 b1))
        have n_BK := ak (blk_put (blk_put (BK20.1) 0 (.int .i64 s.f0) rfl) 1 (.int .i64 s.f1) rfl); have n_HT := ak (TS.box (TS.box (HT.1) (BK20.1) (by decide) (by decide) GE20.1 0 (.int .i64 s.f0)) (blk_put (BK20.1) 0 (.int .i64 s.f0) rfl) (by decide) (by decide) GE20.1 1 (.int .i64 s.f1)); have n_BK4 := ak (blk_far (blk_far (BK4.1) (p := ⟨g20, 0, none⟩) (blk_ne BK4.1 BK20.1 (by decide)) (.int .i64 s.f0)) (p := ⟨g20, 1, none⟩) (blk_ne BK4.1 BK20.1 (by decide)) (.int .i64 s.f1)); have n_BK17 := ak (blk_far (blk_far (BK17.1) (p := ⟨g20, 0, none⟩) (blk_ne BK17.1 BK20.1 (by decide)) (.int .i64 s.f0)) (p := ⟨g20, 1, none⟩) (blk_ne BK17.1 BK20.1 (by decide)) (.int .i64 s.f1)); have n_HL := ak (Kd.R_mono (Kd.R_far (Kd.R_far (Kd.R_types HL.1 BK20.1 (by decide)) (p := ⟨g20, 0, none⟩) (fun k hk => hk.2) (.int .i64 s.f0)) (p := ⟨g20, 1, none⟩) (fun k hk => hk.2) (.int .i64 s.f1)) (fun _ _ => trivial) (ok' := fun _ => True)); have n_HS := ak (Kd.R_mono (Kd.R_far (Kd.R_far (HS.1) (p := ⟨g20, 0, none⟩) (fun k hk => hk.2) (.int .i64 s.f0)) (p := ⟨g20, 1, none⟩) (fun k hk => hk.2) (.int .i64 s.f1)) (fun _ _ => trivial) (ok' := fun _ => True)); generalize ((w20.setCell ⟨g20, 0, none⟩ (.int .i64 s.f0)).setCell ⟨g20, 1, none⟩ (.int .i64 s.f1)) = w20b at n_BK n_HT n_BK4 n_BK17 n_HL n_HS ⊢; clear HT BK20 BK4 BK17 HL HS HB b0 b1 f0 f1; have BK20 := n_BK; have HT := n_HT; have BK4 := n_BK4; have BK17 := n_BK17; have HL := n_HL; have HS := n_HS; clear n_BK n_HT n_BK4 n_BK17 n_HL n_HS; have HB := ak HT.1.below

        have d0 := blk_cell BK20.1 0; have d1 := blk_cell BK20.1 1; have e60 := blk_cell BK17.1 0; have e61 := blk_cell BK17.1 1
        try simp at d0 d1 e60 e61
        go_upto_region 24 with (first | (go_at_call 30; go_loud (refine (layout_Do.calls _ _ ul ut s.f1 s.f0 fb tb eb _ (Kd.R_reads' HL.1).2.2 (Kd.R_reads' HL.1).2.1 HDO.1).mono ?_); rintro e w30 ⟨v30, rfl, hR, hb⟩; obtain ⟨Ab, cb, hv⟩ := Kd.R_slice hR; subst hv; have HD := ak (Kd.R_lower hR HT.1.le); have n_BK4 := ak (blk_below BK4.1 hb); have n_BK17 := ak (blk_below BK17.1 hb); have n_BK20 := ak (blk_below BK20.1 hb); have n_HT := ak (HT.1.step hb); have n_HL := ak (Kd.R_below HL.1 hb); have n_HS := ak (Kd.R_below HS.1 hb); have n_HB := ak (below_step HB.1 hb); clear BK4; clear BK17; clear BK20; clear HT; clear HL; clear HS; clear HB; have BK4 := n_BK4; have BK17 := n_BK17; have BK20 := n_BK20; have HT := n_HT; have HL := n_HL; have HS := n_HS; have HB := n_HB; clear n_BK4 n_BK17 n_BK20 n_HT n_HL n_HS n_HB; clear hR hb) | ((with_reducible refine gate_dst (N := 21) rfl ?_); refine box_event ?hg (N := 21) ?hd (cs := #[.slice none 0 0, .int .i64 0]) (t := 27) ?hr ?_; (case hd => rfl); (case hg => rfl); (case hr => first | (go_simp; done) | (go_simp; rfl)); intro g21 hg w21 hbox hb; have GE21 := ak (show w.heap.size ≤ g21 by have := HB.1.size; omega); have NE21_4 := ak (show g21 ≠ g4 by have := blk_lt BK4.1; omega); have NE21_17 := ak (show g21 ≠ g17 by have := blk_lt BK17.1; omega); have NE21_20 := ak (show g21 ≠ g20 by have := blk_lt BK20.1; omega); have n_BK4 := ak (blk_below BK4.1 hb); have n_BK17 := ak (blk_below BK17.1 hb); have n_BK20 := ak (blk_below BK20.1 hb); have n_HT := ak (HT.1.step hb); have n_HL := ak (Kd.R_below HL.1 hb); have n_HS := ak (Kd.R_below HS.1 hb); have n_HD := ak (Kd.R_below HD.1 hb); have n_HB := ak (below_step HB.1 hb); clear BK4; clear BK17; clear BK20; clear HT; clear HL; clear HS; clear HD; clear HB; have BK4 := n_BK4; have BK17 := n_BK17; have BK20 := n_BK20; have HT := n_HT; have HL := n_HL; have HS := n_HS; have HD := n_HD; have HB := n_HB; clear n_BK4 n_BK17 n_BK20 n_HT n_HL n_HS n_HD n_HB; have BK21 := ak hbox; clear hbox hb hg; have b0 := blk_cell BK21.1 0; have b1 := blk_cell BK21.1 1; have f0 := blk_frozen BK21.1 0; have f1 := blk_frozen BK21.1 1; (try simp at b0 b1)))
        have n_BK := ak (blk_put (blk_put (BK21.1) 0 (.slice Ab fb.length cb) rfl) 1 (.int .i64 tb) rfl); have n_HT := ak (TS.box (TS.box (HT.1) (BK21.1) (by decide) (by decide) GE21.1 0 (.slice Ab fb.length cb)) (blk_put (BK21.1) 0 (.slice Ab fb.length cb) rfl) (by decide) (by decide) GE21.1 1 (.int .i64 tb)); have n_BK4 := ak (blk_far (blk_far (BK4.1) (p := ⟨g21, 0, none⟩) (blk_ne BK4.1 BK21.1 (by decide)) (.slice Ab fb.length cb)) (p := ⟨g21, 1, none⟩) (blk_ne BK4.1 BK21.1 (by decide)) (.int .i64 tb)); have n_BK17 := ak (blk_far (blk_far (BK17.1) (p := ⟨g21, 0, none⟩) (Ne.symm NE21_17.1) (.slice Ab fb.length cb)) (p := ⟨g21, 1, none⟩) (Ne.symm NE21_17.1) (.int .i64 tb)); have n_BK20 := ak (blk_far (blk_far (BK20.1) (p := ⟨g21, 0, none⟩) (blk_ne BK20.1 BK21.1 (by decide)) (.slice Ab fb.length cb)) (p := ⟨g21, 1, none⟩) (blk_ne BK20.1 BK21.1 (by decide)) (.int .i64 tb)); have n_HL := ak (Kd.R_mono (Kd.R_far (Kd.R_far (Kd.R_types HL.1 BK21.1 (by decide)) (p := ⟨g21, 0, none⟩) (fun k hk => hk.2) (.slice Ab fb.length cb)) (p := ⟨g21, 1, none⟩) (fun k hk => hk.2) (.int .i64 tb)) (fun _ _ => trivial) (ok' := fun _ => True)); have n_HS := ak (Kd.R_mono (Kd.R_far (Kd.R_far (Kd.R_types HS.1 BK21.1 (by decide)) (p := ⟨g21, 0, none⟩) (fun k hk => hk.2) (.slice Ab fb.length cb)) (p := ⟨g21, 1, none⟩) (fun k hk => hk.2) (.int .i64 tb)) (fun _ _ => trivial) (ok' := fun _ => True)); have n_HD := ak (Kd.R_mono (Kd.R_far (Kd.R_far (Kd.R_types HD.1 BK21.1 (by decide)) (p := ⟨g21, 0, none⟩) (fun k hk => hk.2) (.slice Ab fb.length cb)) (p := ⟨g21, 1, none⟩) (fun k hk => hk.2) (.int .i64 tb)) (fun _ _ => trivial) (ok' := fun _ => True)); generalize ((w21.setCell ⟨g21, 0, none⟩ (.slice Ab fb.length cb)).setCell ⟨g21, 1, none⟩ (.int .i64 tb)) = w21b at n_BK n_HT n_BK4 n_BK17 n_BK20 n_HL n_HS n_HD ⊢; clear HT BK21 BK4 BK17 BK20 HL HS HD HB b0 b1 f0 f1; have BK21 := n_BK; have HT := n_HT; have BK4 := n_BK4; have BK17 := n_BK17; have BK20 := n_BK20; have HL := n_HL; have HS := n_HS; have HD := n_HD; clear n_BK n_HT n_BK4 n_BK17 n_BK20 n_HL n_HS n_HD; have HB := ak HT.1.below

        obtain ⟨mn, hmn⟩ : ∃ mn : Nat, mm = (mn : Int) := by
         have h := HMM.1
         unfold layout_Rank.f at h
         split at h
         ·injection h with h; exact ⟨_, h.symm⟩
         ·cases h
        subst hmn; have hst3 := HS3.1; have hco := HCO.1; rw [Int.toNat_natCast] at hst3 hco; have hlm : st1.1.length = m := HT.1.ln; rw [hlm] at hco; clear HCO HS3; obtain ⟨d, hd⟩ : ∃ d, d = st1.1.getD rank 0 := ⟨_, rfl⟩; have cA := RowBlk.cell HT.1.bA 0 rank (by rw [hlm]; exact HRK.1); have hkeep := reachP_keep (st := st1) (i := mn) (r := rank) (v := d + 1) (by rw [← hd]; have := hco.2.1; rw [← hd] at this; exact this); rw [← hd] at hst3 hco cA hkeep; rw [hst3] at hkeep; obtain ⟨hc1, hc2, hc3, hc4⟩ := hco; have HC1' := ak hc1; have HC4' := ak hc4; have HS3 := ak hst3; have HKP := ak hkeep; have hwr : IntKind.i64.wrap (d + 1) = d + 1 := IntWalk.i64_in _ (by omega); have e0 := blk_cell HT.1.bO 0; have b0 := blk_cell BK21.1 0; have b1 := blk_cell BK21.1 1
        try simp at e0 b0 b1
        clear hc1 hc4 hst3 hkeep hd hlm c0 c1; clear hmk hmf hu24
        go_region_held3 (fun w' => w'.cell? ⟨g21, 0, none⟩ = some (.slice Ab fb.length cb) ∧ w'.cell? ⟨g21, 1, none⟩ = some (.int .i64 tb) ∧ w'.cell? ⟨gO, 0, none⟩ = some (.slice (some ⟨gA, 0, none⟩) m m) ∧ w'.cell? ⟨gA, rank, none⟩ = some (.int .i64 d)) (first | exact ⟨b0, b1, e0, cA⟩ | exact ⟨n0.1, n1.1, n2.1, n3.1⟩ | exact ⟨q0.1, q1.1, q2.1, q3.1⟩) (first | (go_at_call 31; refine (layout_Rank.calls _ _ fb tb _ _ (Kd.C_below (Kd.R_reads' HD.1).2.2 ?_) (Kd.R_reads' HD.1).2.1 HMM.1).mono ?_; (exact below_drew1 (Below.refl _ _)); rintro e w31 ⟨rfl, hb0⟩; have hb := Below.trans (below_drew1 (Below.refl w21b.heap.size w21b)) hb0; have nHT := ak (HT.1.step hb); have nBK4 := ak (blk_below BK4.1 hb); have nBK17 := ak (blk_below BK17.1 hb); have nBK21 := ak (blk_below BK21.1 hb); have nHL := ak (Kd.R_below HL.1 hb); have nHS := ak (Kd.R_below HS.1 hb); have n0 := ak ((blk_cell nBK21.1 0).trans rfl); have n1 := ak ((blk_cell nBK21.1 1).trans rfl); have n2 := ak ((blk_cell nHT.1.bO 0).trans rfl); have n3 := ak ((World.cell?_of_block (hb.block gA (blk_lt HT.1.bA))).trans cA); clear hb hb0) | (go_at_call 55; refine (reach_st w _ gO gQ gA m qv st1 mn (d + 1) nHT.1 HC1'.1 (by omega) HC4'.1).mono ?_; rintro e w55 ⟨rfl, hk, qv2, hT⟩; rw [HS3.1] at hT; have qHT := ak hT; have qBK4 := ak (hk _ _ _ nBK4.1 (by decide) (blk_ne nBK4.1 nHT.1.bQ (by decide))); have qBK17 := ak (hk _ _ _ nBK17.1 (by decide) (blk_ne nBK17.1 nHT.1.bQ (by decide))); have qBK21 := ak (hk _ _ _ nBK21.1 (by decide) (blk_ne nBK21.1 nHT.1.bQ (by decide))); have qHL := ak (R_kept3 nHL.1 (by decide) hk nHT.1.bQ); have qHS := ak (R_kept3 nHS.1 (by decide) hk nHT.1.bQ); have q0 := ak ((blk_cell qBK21.1 0).trans rfl); have q1 := ak ((blk_cell qBK21.1 1).trans rfl); have q2 := ak ((blk_cell qHT.1.bO 0).trans rfl); have q3 := ak (by have h := RowBlk.cell qHT.1.bA 0 rank (by rw [qHT.1.ln]; exact HRK.1); rw [HKP.1] at h; exact h); clear hT hk))
        go_wp2_with fail
        go_roundg (gk - 1)
        case measure => have := HJ.1; omega
        case rel => exact ⟨j + 1, qv2, st3, by
          obtain ⟨_, inner, ho, _⟩ := Kd.Q_of_R qHS.1; have hmx := q_max ho; have e : wrap64 ((j : Int) + 1) = (j : Int) + 1 := wrap_id (by omega) (by omega)
          first | rfl | (rw [e]; rfl) | simp [e], ⟨by have := HJ.1; omega⟩, qHT, HST2, qBK4, qBK17, qHL, qHS⟩
       ·have hje : j = ss.length := by have := HJ.1; omega
        have y6 : decide ((j : Int) < (ss.length : Int)) = false := decide_eq_false (by omega); have y7 : decide (j < ss.length) = false := decide_eq_false (by omega)
        have y8 : (ss.length : Int) ≤ (j : Int) := by omega
        have HSE := ak (show st1 = st2 by
         have h := HST.1; rw [hje, List.drop_length] at h; simp only [backsP] at h
         injection h)
        rw [HSE.1] at HT; clear hje hj
        go_wp2_with fail
        go_roundg f
        case measure => omega
        case rel => exact ⟨st2, qv, HBF, HT, BK4⟩
set_option maxHeartbeats 1000000 in
theorem table_limit' (a0_0 : Int) (a0_1 : Int) (a0_2 : Int) (A0_3 : Option Addr) (c0_3 : Nat) (l0_3 : List Int) (A0_4 : Option Addr) (c0_4 : Nat) (l0_4 : List Int) (A1 : Option Addr) (c1 : Nat) (l1 : List Int) (k goal : Int) (w : World) (h : 12 < l1.length) :
  Calls Try.prog 16 #[.agg #[.int .i64 a0_0, .int .i64 a0_1, .int .i64 a0_2, .slice A0_3 l0_3.length c0_3, .slice A0_4 l0_4.length c0_4], .slice A1 l1.length c1, .int .i64 k, .int .i64 goal] w fun e w' => ∃ v0_ : Value, e = .returned (.tuple #[v0_, .int .i64 27]) ∧ Kd.R (Kd.int .i64) 3 w' w.heap.size (fun _ => True) v0_ [] ∧ Below w.heap.size w w' := by
 have HB := ak (Below.refl w.heap.size w); have y1 : decide ((l1.length : Int) > 12) = true := decide_eq_true (by omega); have y2 : decide (12 < l1.length) = true := decide_eq_true h; clear h
 go_enter Try.func16, Try.ntmps16
 go_wp2_with (((with_reducible refine gate_dst (N := 4) rfl ?_); refine box_event ?hg (N := 4) ?hd (cs := #[.int .i64 a0_0, .int .i64 a0_1, .int .i64 a0_2, .slice A0_3 l0_3.length c0_3, .slice A0_4 l0_4.length c0_4]) (t := 24) ?hr ?_; (case hd => rfl); (case hg => rfl); (case hr => first | (go_simp; done) | (go_simp; rfl)); intro g4 hg w4 hbox hb; have GE4 := ak (show w.heap.size ≤ g4 by have := HB.1.size; omega); have n_HB := ak (below_step HB.1 hb); clear HB; have HB := n_HB; clear n_HB; have BK4 := ak hbox; clear hbox hb hg))
 go_ret2
 exact ⟨_, rfl, Kd.R_nil _ _ _ _ _, HB.1⟩
theorem puzzle_Table.calls (a0_0 : Int) (a0_1 : Int) (a0_2 : Int) (A0_3 : Option Addr) (c0_3 : Nat) (l0_3 : List Int) (A0_4 : Option Addr) (c0_4 : Nat) (l0_4 : List Int) (A1 : Option Addr) (c1 : Nat) (l1 : List Int) (a2 a3 : Int) (r1 : List Int) (r2 : Int) (w : World) (hr0_3 : Kd.C (Kd.int .i64) w A0_3 l0_3.length l0_3) (hc0_3 : l0_3.length ≤ c0_3) (hr0_4 : Kd.C (Kd.int .i64) w A0_4 l0_4.length l0_4) (hc0_4 : l0_4.length ≤ c0_4) (hr1 : Kd.C (Kd.int .i64) w A1 l1.length l1) (hc1 : l1.length ≤ c1) (h : puzzle_Table.f a0_0 a0_1 a0_2 l0_3 l0_4 l1 a2 a3 = some (r1, r2)) :
  Calls Try.prog 16 #[.agg #[.int .i64 a0_0, .int .i64 a0_1, .int .i64 a0_2, .slice A0_3 l0_3.length c0_3, .slice A0_4 l0_4.length c0_4], .slice A1 l1.length c1, .int .i64 a2, .int .i64 a3] w fun e w' => ∃ v0_ : Value, e = .returned (.tuple #[v0_, .int .i64 r2]) ∧ Kd.R (Kd.int .i64) 3 w' w.heap.size (fun _ => True) v0_ r1 ∧ Below w.heap.size w w' := by
 unfold puzzle_Table.f at h
 split at h
 ·rename_i h1
  injection h with h
  injection h with h2 h3
  subst h2 h3; exact table_limit' _ _ _ _ _ _ _ _ _ _ _ _ _ _ _ h1
 ·rename_i h1
  split at h
  ·rename_i h2
   injection h with h
   injection h with h3 h4
   subst h3 h4
   by_cases q1 : a2 < 1
   ·exact table_k1 _ _ _ _ _ _ _ _ _ _ _ _ _ _ _ (by omega) q1
   ·by_cases q2 : (l1.length : Int) < a2
    ·exact table_k2 _ _ _ _ _ _ _ _ _ _ _ _ _ _ _ (by omega) (by omega) q2
    ·by_cases q3 : a3 < 0
     ·exact table_g1 _ _ _ _ _ _ _ _ _ _ _ _ _ _ _ (by omega) (by omega) (by omega) q3
     ·exact table_g2 _ _ _ _ _ _ _ _ _ _ _ _ _ _ _ (by omega) (by omega) (by omega) (by omega) (by omega)
  ·rename_i h2
   obtain ⟨out, ho, h⟩ := Option.bind_eq_some_iff.1 h
   injection h with h
   injection h with h3 h4
   subst h3 h4; obtain ⟨k, rfl⟩ : ∃ k : Nat, a2 = (k : Int) := ⟨a2.toNat, by omega⟩; obtain ⟨g, rfl⟩ : ∃ g : Nat, a3 = (g : Int) := ⟨a3.toNat, by omega⟩; rw [Int.toNat_natCast] at ho; exact table_ok _ _ _ _ _ _ _ _ _ _ _ _ k g _ w hr0_3 hc0_3 hr0_4 hc0_4 hr1 hc1 (by omega) (by omega) (by omega) (by omega) ho
end Go.Proofs.Ytogmjilaiopjmaa.P
end
section
namespace Go.Proofs.Ytogmjilaiopjmaa.P
open Go.RowKit Go.Proofs.YtogmjilaiopjmaaW.PrintWords Go.Proofs.YtogmjilaiopjmaaW.PrintLast Go.Proofs.YtogmjilaiopjmaaW.PrintMore
attribute [local go_sem] max2_int min2_int max_two min_two max_three min_three max_four min_four
def puzzle_distances.f (k : Nat) (a0_0 : Int) (a0_1 : Int) (a0_2 : Int) (l0_3 : List Int) (l0_4 : List Int) (l1 : List Int) (l2_0 : List Bool) (a2_1 : Int) (a3 : Int) : Option (List Int × Int × Int) := (layout_Shelves.f k l2_0 a2_1).bind fun t149 => ((puzzle_Table.f a0_0 a0_1 a0_2 l0_3 l0_4 l1 t149 a3).bind fun bt150 => (if bt150.2 = 0 then ((layout_Rank.f l2_0 a2_1).bind fun t154 => (if 0 ≤ t154 then (if t154 < (bt150.1.length : Int) then (if (rd bt150.1 t154) < 0 then (some (([] : List Int), 0, 14)) else (some (bt150.1, rd bt150.1 t154, 0))) else (none)) else (none))) else (some (([] : List Int), 0, bt150.2))))
def puzzle_distances.T1 : Bool × List (List Nat × List Nat) := (true, [([], []), ([], []), ([], []), ([2], [2]), ([], []), ([0, 1, 3, 4, 3], [0, 1, 3, 4]), ([5], [5]), ([6], [6]), ([6], [6]), ([7, 5, 0, 1, 2, 3, 4, 5, 6, 7], [7]), ([8, 9, 0, 1, 2, 3, 4, 5, 6, 7, 8, 9], [8])])
def puzzle_distances.B1 : List Nat := [0, 0, 0, 4, 0, 31, 63, 127, 127, 255, 1023]
theorem puzzle_distances.tab1 : rtab .any (opsOf Try.f61 1) = puzzle_distances.T1 := by kernel_rfl
theorem puzzle_distances.bits1 : waitsOk puzzle_distances.T1.2 puzzle_distances.B1 = true := by kernel_rfl
set_option maxHeartbeats 8000000 in
set_option maxRecDepth 100000 in
theorem puzzle_distances.calls (k : Nat) (a0_0 : Int) (a0_1 : Int) (a0_2 : Int) (A0_3 : Option Addr) (c0_3 : Nat) (l0_3 : List Int) (A0_4 : Option Addr) (c0_4 : Nat) (l0_4 : List Int) (A1 : Option Addr) (c1 : Nat) (l1 : List Int) (A2_0 : Option Addr) (c2_0 : Nat) (l2_0 : List Bool) (a2_1 : Int) (a3 : Int) (r1 : List Int) (r2 : Int) (r3 : Int) (w : World) (hr0_3 : Kd.C (Kd.int .i64) w A0_3 l0_3.length l0_3) (hc0_3 : l0_3.length ≤ c0_3) (hr0_4 : Kd.C (Kd.int .i64) w A0_4 l0_4.length l0_4) (hc0_4 : l0_4.length ≤ c0_4) (hr1 : Kd.C (Kd.int .i64) w A1 l1.length l1) (hc1 : l1.length ≤ c1) (hr2_0 : Kd.C Kd.bool w A2_0 l2_0.length l2_0) (hc2_0 : l2_0.length ≤ c2_0) (h : puzzle_distances.f k a0_0 a0_1 a0_2 l0_3 l0_4 l1 l2_0 a2_1 a3 = some (r1, r2, r3)) :
  Calls Try.prog 61 #[.agg #[.int .i64 a0_0, .int .i64 a0_1, .int .i64 a0_2, .slice A0_3 l0_3.length c0_3, .slice A0_4 l0_4.length c0_4], .slice A1 l1.length c1, .agg #[.slice A2_0 l2_0.length c2_0, .int .i64 a2_1], .int .i64 a3] w fun e w' => ∃ v0_ : Value, e = .returned (.tuple #[v0_, .int .i64 r2, .int .i64 r3]) ∧ Kd.R (Kd.int .i64) 3 w' w.heap.size (fun _ => True) v0_ r1 ∧ Below w.heap.size w w' := by
 have hu24 := Try.underlying24; have hu27 := Try.underlying27; have HR0_3 := ak hr0_3; have HC0_3 := ak hc0_3; clear hr0_3 hc0_3; have HR0_4 := ak hr0_4; have HC0_4 := ak hc0_4; clear hr0_4 hc0_4; have HR1 := ak hr1; have HC1 := ak hc1; clear hr1 hc1; have HR2_0 := ak hr2_0; have HC2_0 := ak hc2_0; clear hr2_0 hc2_0; have HB := ak (Below.refl w.heap.size w); have H : ((layout_Shelves.f k l2_0 a2_1).bind fun t149 => ((puzzle_Table.f a0_0 a0_1 a0_2 l0_3 l0_4 l1 t149 a3).bind fun bt150 => (if bt150.2 = 0 then ((layout_Rank.f l2_0 a2_1).bind fun t154 => (if 0 ≤ t154 then (if t154 < (bt150.1.length : Int) then (if (rd bt150.1 t154) < 0 then (some (([] : List Int), 0, 14)) else (some (bt150.1, rd bt150.1 t154, 0))) else (none)) else (none))) else (some (([] : List Int), 0, bt150.2))))) = some (r1, r2, r3) := h; clear h; replace H := Option.bind_eq_some_iff.mp H; obtain ⟨t149, A50, H⟩ := H
 replace H : ((puzzle_Table.f a0_0 a0_1 a0_2 l0_3 l0_4 l1 t149 a3).bind fun bt150 => (if bt150.2 = 0 then ((layout_Rank.f l2_0 a2_1).bind fun t154 => (if 0 ≤ t154 then (if t154 < (bt150.1.length : Int) then (if (rd bt150.1 t154) < 0 then (some (([] : List Int), 0, 14)) else (some (bt150.1, rd bt150.1 t154, 0))) else (none)) else (none))) else (some (([] : List Int), 0, bt150.2)))) = some (r1, r2, r3) := H
 have A5 := ak A50; clear A50; replace H := Option.bind_eq_some_iff.mp H; obtain ⟨⟨t150, t153⟩, A60, H⟩ := H
 replace H : (if t153 = 0 then ((layout_Rank.f l2_0 a2_1).bind fun t154 => (if 0 ≤ t154 then (if t154 < (t150.length : Int) then (if (rd t150 t154) < 0 then (some (([] : List Int), 0, 14)) else (some (t150, rd t150 t154, 0))) else (none)) else (none))) else (some (([] : List Int), 0, t153))) = some (r1, r2, r3) := H
 have A6 := ak A60; clear A60
 by_cases c7 : t153 = 0
 ·rw [if_pos c7] at H; have c7b0 : (t153 == 0) = true := beq_iff_eq.mpr c7; have c7b1 : (t153 != 0) = false := bne_eq_false_iff_eq.mpr c7; clear c7; replace H := Option.bind_eq_some_iff.mp H; obtain ⟨t154, A80, H⟩ := H
  replace H : (if 0 ≤ t154 then (if t154 < (t150.length : Int) then (if (rd t150 t154) < 0 then (some (([] : List Int), 0, 14)) else (some (t150, rd t150 t154, 0))) else (none)) else (none)) = some (r1, r2, r3) := H
  have A8 := ak A80; clear A80
  by_cases c9 : 0 ≤ t154
  ·rw [if_pos c9] at H; have c9b0 : decide (0 ≤ t154) = true := decide_eq_true c9; clear c9
   by_cases c10 : t154 < (t150.length : Int)
   ·rw [if_pos c10] at H; have c10b0 : decide (t154 < (t150.length : Int)) = true := decide_eq_true c10; clear c10
    by_cases c11 : (rd t150 t154) < 0
    ·rw [if_pos c11] at H; have c11b0 : decide ((rd t150 t154) < 0) = true := decide_eq_true c11; clear c11; simp only [Option.some.injEq, Prod.mk.injEq] at H; obtain ⟨rfl, rfl, rfl⟩ := H
     go_enter Try.func61, Try.ntmps61
     try go_wp2_with (first | ((with_reducible refine gate_dst (N := 4) rfl ?_); refine box_event ?hg (N := 4) ?hd (cs := #[.int .i64 a0_0, .int .i64 a0_1, .int .i64 a0_2, .slice A0_3 l0_3.length c0_3, .slice A0_4 l0_4.length c0_4]) (t := 24) ?hr ?_; (case hd => rfl); (case hg => rfl); (case hr => first | (go_simp; done) | (go_simp; rfl)); intro gb147 hg w12 hbox hb; have BK147 := ak (hbox); have GW147 := gw_ hg HB.1.size; have GE147 := gw_ hg HB.1.size; replace HB := ak (below_step HB.1 hb); clear hb hbox hg) | ((with_reducible refine gate_dst (N := 6) rfl ?_); refine box_event ?hg (N := 6) ?hd (cs := #[.slice A2_0 l2_0.length c2_0, .int .i64 a2_1]) (t := 27) ?hr ?_; (case hd => rfl); (case hg => rfl); (case hr => first | (go_simp; done) | (go_simp; rfl)); intro gb148 hg w13 hbox hb; have n0_ := ak (blk_below BK147.1 hb); have n1_ := ak (below_step HB.1 hb); have n2_ := ak (hbox); have n3_ := gw_ hg HB.1.size; have n4_ := gw_ hg HB.1.size; have n5_ := ak ((by rw [hg]; exact Nat.ne_of_lt (blk_lt BK147.1) : gb147 ≠ gb148)); have n6_ := ak ((by rw [hg]; exact Nat.ne_of_gt (blk_lt BK147.1) : gb148 ≠ gb147)); clear BK147 HB; have BK147 := n0_; have HB := n1_; have BK148 := n2_; have GW148 := n3_; have GE148 := n4_; have NB147_148 := n5_; have NB148_147 := n6_; clear n0_ n1_ n2_ n3_ n4_ n5_ n6_; clear hb hbox hg))
     replace BK147 := ak (blk_drew BK147.1); replace BK148 := ak (blk_drew BK148.1); replace HB := ak (below_drew1 HB.1); refine start_ (n := 11) (S := fun w' => w'.cell? ⟨gb147, 0, none⟩ = some (.int .i64 a0_0) ∧ w'.cell? ⟨gb147, 1, none⟩ = some (.int .i64 a0_1) ∧ w'.cell? ⟨gb147, 2, none⟩ = some (.int .i64 a0_2) ∧ w'.cell? ⟨gb147, 3, none⟩ = some (.slice A0_3 l0_3.length c0_3) ∧ w'.cell? ⟨gb147, 4, none⟩ = some (.slice A0_4 l0_4.length c0_4) ∧ w'.cell? ⟨gb148, 0, none⟩ = some (.slice A2_0 l2_0.length c2_0) ∧ w'.cell? ⟨gb148, 1, none⟩ = some (.int .i64 a2_1)) (ds := []) (bl 11 0) (by kernel_rfl) rfl rfl ⟨(blk_cell BK147.1 0).trans rfl, (blk_cell BK147.1 1).trans rfl, (blk_cell BK147.1 2).trans rfl, (blk_cell BK147.1 3).trans rfl, (blk_cell BK147.1 4).trans rfl, (blk_cell BK148.1 0).trans rfl, (blk_cell BK148.1 1).trans rfl⟩ (fun hHeld => ?_); refine with_tabW puzzle_distances.tab1 puzzle_distances.bits1 (fun HT_ HW_ => ?_); generalize w13.drew = w14 at BK147 BK148 HB hHeld ⊢; refine pu_ 1 (some 16) (bl 11 2) HT_.1 ?_; refine pu_ 4 (some 19) (bl 11 18) HT_.1 ?_; refine tk_ 0 (some 15) (bl 11 19) (take_ofW HT_.1 HW_.1 (by kernel_rfl)) hHeld ?_; refine tk_ 2 (some 17) (bl 11 23) (take_ofW HT_.1 HW_.1 (by kernel_rfl)) hHeld ?_; refine one_ (i := 3) (N := some 18) (bl 11 31) rfl rfl (one_of HT_.1 (by kernel_rfl)) (by decide) (fun K hK => ?_); refine goes_ Try.func32 (by kernel_rfl) rfl #[.agg #[.slice A2_0 l2_0.length c2_0, .int .i64 a2_1]] (by rfl) rfl rfl (sm_) ?_
     with_reducible refine (layout_Shelves.calls k _ _ l2_0 a2_1 t149 _ ?side1 ?side2 A5.1).mono ?_
     (case side1 => exact (Kd.C_below HR2_0.1 HB.1)); (case side2 => exact HC2_0.1); rintro e w15 ⟨rfl, hb⟩; refine ⟨_, rfl, ?_⟩; replace BK147 := ak (blk_below BK147.1 hb); replace BK148 := ak (blk_below BK148.1 hb); replace HB := ak (below_step HB.1 hb); (try clear hb); refine hK.out _ _ ⟨(blk_cell BK147.1 0).trans rfl, (blk_cell BK147.1 1).trans rfl, (blk_cell BK147.1 2).trans rfl, (blk_cell BK147.1 3).trans rfl, (blk_cell BK147.1 4).trans rfl, (blk_cell BK148.1 0).trans rfl, (blk_cell BK148.1 1).trans rfl⟩ (fun hHeld => ?_); clear hK K; refine norm_ (a' := ?_) ?_ ?_; rotate_left
     ·show Act.put _ (some 18) _ = _
      simp only [Act.put, List.setIfInBounds_toArray, List.set_cons_zero, List.set_cons_succ, i64_w, i32_w]; rfl
     refine one_ (i := 5) (N := some 20) (bl 11 63) rfl rfl (one_of HT_.1 (by kernel_rfl)) (by decide) (fun K hK => ?_); refine goes_ Try.func16 (by kernel_rfl) rfl #[.agg #[.int .i64 a0_0, .int .i64 a0_1, .int .i64 a0_2, .slice A0_3 l0_3.length c0_3, .slice A0_4 l0_4.length c0_4], .slice A1 l1.length c1, .int .i64 t149, .int .i64 a3] (by rfl) rfl rfl (sm_) ?_
     with_reducible refine (puzzle_Table.calls a0_0 a0_1 a0_2 _ _ l0_3 _ _ l0_4 _ _ l1 t149 a3 t150 t153 _ ?side1 ?side2 ?side3 ?side4 ?side5 ?side6 A6.1).mono ?_
     (case side1 => exact (Kd.C_below HR0_3.1 HB.1)); (case side2 => exact HC0_3.1); (case side3 => exact (Kd.C_below HR0_4.1 HB.1)); (case side4 => exact HC0_4.1); (case side5 => exact (Kd.C_below HR1.1 HB.1)); (case side6 => exact HC1.1); rintro e w16 ⟨v151, rfl, ho0, hb⟩; refine ⟨_, rfl, ?_⟩; replace BK147 := ak (blk_below BK147.1 hb); replace BK148 := ak (blk_below BK148.1 hb); have HO152 := ak (Kd.R_lower ho0 HB.1.size); replace HB := ak (below_step HB.1 hb); (try clear hb); (try clear ho0); refine hK.out _ _ ⟨(blk_cell BK147.1 0).trans rfl, (blk_cell BK147.1 1).trans rfl, (blk_cell BK147.1 2).trans rfl, (blk_cell BK147.1 3).trans rfl, (blk_cell BK147.1 4).trans rfl, (blk_cell BK148.1 0).trans rfl, (blk_cell BK148.1 1).trans rfl⟩ (fun hHeld => ?_); clear hK K; refine norm_ (a' := ?_) ?_ ?_; rotate_left
     ·show Act.put _ (some 20) _ = _
      simp only [Act.put, List.setIfInBounds_toArray, List.set_cons_zero, List.set_cons_succ, i64_w, i32_w]; rfl
     refine pu_ 6 (some 14) (bl 11 127) HT_.1 ?_; refine pu_ 7 (some 21) (bl 11 255) HT_.1 ?_; refine pu_ 8 (some 22) (bl 11 511) HT_.1 ?_; refine pu_ 9 (some 11) (bl 11 1023) HT_.1 ?_; refine pu_ 10 (some 12) (bl 11 2047) HT_.1 ?_; refine done_ (done_of HT_.1 (by kernel_rfl)) ?_; have hnb17 := NB148_147.1; have hnc17 := NB147_148.1; have hcz18_0 : w16.cell? ⟨gb148, 0, none⟩ = some (.slice A2_0 l2_0.length c2_0) := (blk_cell BK148.1 0).trans rfl; have hcz18_1 : w16.cell? ⟨gb148, 1, none⟩ = some (.int .i64 a2_1) := (blk_cell BK148.1 1).trans rfl; have hfz18_0 := blk_frozen BK148.1 0; have hfz18_1 := blk_frozen BK148.1 1
     try go_wp2_with (first | ((with_reducible refine gate_callee (f := 31) rfl ?_); refine goesL_ (some 28) rfl rfl Try.func31 (by kernel_rfl) rfl #[.agg #[.slice A2_0 l2_0.length c2_0, .int .i64 a2_1]] rfl (sm_) ?_; (with_reducible refine (layout_Rank.calls _ _ l2_0 a2_1 t154 _ ?side1 ?side2 A8.1).mono ?_); (case side1 => exact (Kd.C_below HR2_0.1 HB.1)); (case side2 => exact HC2_0.1); rintro e w19 ⟨rfl, hb⟩; refine ⟨_, rfl, ?_⟩; replace HO152 := ak (Kd.R_below HO152.1 hb); replace BK147 := ak (blk_below BK147.1 hb); replace BK148 := ak (blk_below BK148.1 hb); replace HB := ak (below_step HB.1 hb); (try clear hb); obtain ⟨Ao20, co20, eo20⟩ := Kd.R_slice HO152.1; subst eo20; have p155 : 0 ≤ (t154 : Int) := of_decide_eq_true (by assumption); have q155 : t154 < (t150.length : Int) := of_decide_eq_true (by assumption); obtain ⟨ad155, e155, hx155_0⟩ := Kd.at_int (Kd.R_reads' HO152.1).2.2 t154 p155 q155; cases e155; replace p155 := eq_true p155; replace q155 := eq_true q155))
     go_ret3
     exact ⟨_, er_, by first | exact Kd.R_nil _ _ _ _ _ | exact Kd.N_nil _ _ _ _ _ | exact Kd.V_nil _ _ _ _ _ | exact Kd.Q_nil _ _ _ _ _ | exact Kd.S_nil _ _ _ _ _, hq2_ HB.1 GE147.1 GE148.1⟩
    ·rw [if_neg c11] at H; have c11b0 : decide ((rd t150 t154) < 0) = false := decide_eq_false c11; clear c11; simp only [Option.some.injEq, Prod.mk.injEq] at H; obtain ⟨rfl, rfl, rfl⟩ := H
     go_enter Try.func61, Try.ntmps61
     try go_wp2_with (first | ((with_reducible refine gate_dst (N := 4) rfl ?_); refine box_event ?hg (N := 4) ?hd (cs := #[.int .i64 a0_0, .int .i64 a0_1, .int .i64 a0_2, .slice A0_3 l0_3.length c0_3, .slice A0_4 l0_4.length c0_4]) (t := 24) ?hr ?_; (case hd => rfl); (case hg => rfl); (case hr => first | (go_simp; done) | (go_simp; rfl)); intro gb147 hg w21 hbox hb; have BK147 := ak (hbox); have GW147 := gw_ hg HB.1.size; have GE147 := gw_ hg HB.1.size; replace HB := ak (below_step HB.1 hb); clear hb hbox hg) | ((with_reducible refine gate_dst (N := 6) rfl ?_); refine box_event ?hg (N := 6) ?hd (cs := #[.slice A2_0 l2_0.length c2_0, .int .i64 a2_1]) (t := 27) ?hr ?_; (case hd => rfl); (case hg => rfl); (case hr => first | (go_simp; done) | (go_simp; rfl)); intro gb148 hg w22 hbox hb; have n0_ := ak (blk_below BK147.1 hb); have n1_ := ak (below_step HB.1 hb); have n2_ := ak (hbox); have n3_ := gw_ hg HB.1.size; have n4_ := gw_ hg HB.1.size; have n5_ := ak ((by rw [hg]; exact Nat.ne_of_lt (blk_lt BK147.1) : gb147 ≠ gb148)); have n6_ := ak ((by rw [hg]; exact Nat.ne_of_gt (blk_lt BK147.1) : gb148 ≠ gb147)); clear BK147 HB; have BK147 := n0_; have HB := n1_; have BK148 := n2_; have GW148 := n3_; have GE148 := n4_; have NB147_148 := n5_; have NB148_147 := n6_; clear n0_ n1_ n2_ n3_ n4_ n5_ n6_; clear hb hbox hg))
     replace BK147 := ak (blk_drew BK147.1); replace BK148 := ak (blk_drew BK148.1); replace HB := ak (below_drew1 HB.1); refine start_ (n := 11) (S := fun w' => w'.cell? ⟨gb147, 0, none⟩ = some (.int .i64 a0_0) ∧ w'.cell? ⟨gb147, 1, none⟩ = some (.int .i64 a0_1) ∧ w'.cell? ⟨gb147, 2, none⟩ = some (.int .i64 a0_2) ∧ w'.cell? ⟨gb147, 3, none⟩ = some (.slice A0_3 l0_3.length c0_3) ∧ w'.cell? ⟨gb147, 4, none⟩ = some (.slice A0_4 l0_4.length c0_4) ∧ w'.cell? ⟨gb148, 0, none⟩ = some (.slice A2_0 l2_0.length c2_0) ∧ w'.cell? ⟨gb148, 1, none⟩ = some (.int .i64 a2_1)) (ds := []) (bl 11 0) (by kernel_rfl) rfl rfl ⟨(blk_cell BK147.1 0).trans rfl, (blk_cell BK147.1 1).trans rfl, (blk_cell BK147.1 2).trans rfl, (blk_cell BK147.1 3).trans rfl, (blk_cell BK147.1 4).trans rfl, (blk_cell BK148.1 0).trans rfl, (blk_cell BK148.1 1).trans rfl⟩ (fun hHeld => ?_); refine with_tabW puzzle_distances.tab1 puzzle_distances.bits1 (fun HT_ HW_ => ?_); generalize w22.drew = w23 at BK147 BK148 HB hHeld ⊢; refine pu_ 1 (some 16) (bl 11 2) HT_.1 ?_; refine pu_ 4 (some 19) (bl 11 18) HT_.1 ?_; refine tk_ 0 (some 15) (bl 11 19) (take_ofW HT_.1 HW_.1 (by kernel_rfl)) hHeld ?_; refine tk_ 2 (some 17) (bl 11 23) (take_ofW HT_.1 HW_.1 (by kernel_rfl)) hHeld ?_; refine one_ (i := 3) (N := some 18) (bl 11 31) rfl rfl (one_of HT_.1 (by kernel_rfl)) (by decide) (fun K hK => ?_); refine goes_ Try.func32 (by kernel_rfl) rfl #[.agg #[.slice A2_0 l2_0.length c2_0, .int .i64 a2_1]] (by rfl) rfl rfl (sm_) ?_
     with_reducible refine (layout_Shelves.calls k _ _ l2_0 a2_1 t149 _ ?side1 ?side2 A5.1).mono ?_
     (case side1 => exact (Kd.C_below HR2_0.1 HB.1)); (case side2 => exact HC2_0.1); rintro e w24 ⟨rfl, hb⟩; refine ⟨_, rfl, ?_⟩; replace BK147 := ak (blk_below BK147.1 hb); replace BK148 := ak (blk_below BK148.1 hb); replace HB := ak (below_step HB.1 hb); (try clear hb); refine hK.out _ _ ⟨(blk_cell BK147.1 0).trans rfl, (blk_cell BK147.1 1).trans rfl, (blk_cell BK147.1 2).trans rfl, (blk_cell BK147.1 3).trans rfl, (blk_cell BK147.1 4).trans rfl, (blk_cell BK148.1 0).trans rfl, (blk_cell BK148.1 1).trans rfl⟩ (fun hHeld => ?_); clear hK K; refine norm_ (a' := ?_) ?_ ?_; rotate_left
     ·show Act.put _ (some 18) _ = _
      simp only [Act.put, List.setIfInBounds_toArray, List.set_cons_zero, List.set_cons_succ, i64_w, i32_w]; rfl
     refine one_ (i := 5) (N := some 20) (bl 11 63) rfl rfl (one_of HT_.1 (by kernel_rfl)) (by decide) (fun K hK => ?_); refine goes_ Try.func16 (by kernel_rfl) rfl #[.agg #[.int .i64 a0_0, .int .i64 a0_1, .int .i64 a0_2, .slice A0_3 l0_3.length c0_3, .slice A0_4 l0_4.length c0_4], .slice A1 l1.length c1, .int .i64 t149, .int .i64 a3] (by rfl) rfl rfl (sm_) ?_
     with_reducible refine (puzzle_Table.calls a0_0 a0_1 a0_2 _ _ l0_3 _ _ l0_4 _ _ l1 t149 a3 t150 t153 _ ?side1 ?side2 ?side3 ?side4 ?side5 ?side6 A6.1).mono ?_
     (case side1 => exact (Kd.C_below HR0_3.1 HB.1)); (case side2 => exact HC0_3.1); (case side3 => exact (Kd.C_below HR0_4.1 HB.1)); (case side4 => exact HC0_4.1); (case side5 => exact (Kd.C_below HR1.1 HB.1)); (case side6 => exact HC1.1); rintro e w25 ⟨v151, rfl, ho0, hb⟩; refine ⟨_, rfl, ?_⟩; replace BK147 := ak (blk_below BK147.1 hb); replace BK148 := ak (blk_below BK148.1 hb); have HO152 := ak (Kd.R_lower ho0 HB.1.size); replace HB := ak (below_step HB.1 hb); (try clear hb); (try clear ho0); refine hK.out _ _ ⟨(blk_cell BK147.1 0).trans rfl, (blk_cell BK147.1 1).trans rfl, (blk_cell BK147.1 2).trans rfl, (blk_cell BK147.1 3).trans rfl, (blk_cell BK147.1 4).trans rfl, (blk_cell BK148.1 0).trans rfl, (blk_cell BK148.1 1).trans rfl⟩ (fun hHeld => ?_); clear hK K; refine norm_ (a' := ?_) ?_ ?_; rotate_left
     ·show Act.put _ (some 20) _ = _
      simp only [Act.put, List.setIfInBounds_toArray, List.set_cons_zero, List.set_cons_succ, i64_w, i32_w]; rfl
     refine pu_ 6 (some 14) (bl 11 127) HT_.1 ?_; refine pu_ 7 (some 21) (bl 11 255) HT_.1 ?_; refine pu_ 8 (some 22) (bl 11 511) HT_.1 ?_; refine pu_ 9 (some 11) (bl 11 1023) HT_.1 ?_; refine pu_ 10 (some 12) (bl 11 2047) HT_.1 ?_; refine done_ (done_of HT_.1 (by kernel_rfl)) ?_; have hnb26 := NB148_147.1; have hnc26 := NB147_148.1; have hcz27_0 : w25.cell? ⟨gb148, 0, none⟩ = some (.slice A2_0 l2_0.length c2_0) := (blk_cell BK148.1 0).trans rfl; have hcz27_1 : w25.cell? ⟨gb148, 1, none⟩ = some (.int .i64 a2_1) := (blk_cell BK148.1 1).trans rfl; have hfz27_0 := blk_frozen BK148.1 0; have hfz27_1 := blk_frozen BK148.1 1
     try go_wp2_with (first | ((with_reducible refine gate_callee (f := 31) rfl ?_); refine goesL_ (some 28) rfl rfl Try.func31 (by kernel_rfl) rfl #[.agg #[.slice A2_0 l2_0.length c2_0, .int .i64 a2_1]] rfl (sm_) ?_; (with_reducible refine (layout_Rank.calls _ _ l2_0 a2_1 t154 _ ?side1 ?side2 A8.1).mono ?_); (case side1 => exact (Kd.C_below HR2_0.1 HB.1)); (case side2 => exact HC2_0.1); rintro e w28 ⟨rfl, hb⟩; refine ⟨_, rfl, ?_⟩; replace HO152 := ak (Kd.R_below HO152.1 hb); replace BK147 := ak (blk_below BK147.1 hb); replace BK148 := ak (blk_below BK148.1 hb); replace HB := ak (below_step HB.1 hb); (try clear hb); obtain ⟨Ao29, co29, eo29⟩ := Kd.R_slice HO152.1; subst eo29; have p155 : 0 ≤ (t154 : Int) := of_decide_eq_true (by assumption); have q155 : t154 < (t150.length : Int) := of_decide_eq_true (by assumption); obtain ⟨ad155, e155, hx155_0⟩ := Kd.at_int (Kd.R_reads' HO152.1).2.2 t154 p155 q155; cases e155; replace p155 := eq_true p155; replace q155 := eq_true q155))
     go_ret3
     exact ⟨_, er_, by (with_reducible repeat (first | apply Kd.R_alloc | apply Kd.R_drewN | apply Kd.R_drew)); exact HO152.1, hq2_ HB.1 GE147.1 GE148.1⟩
   ·rw [if_neg c10] at H; exact absurd H (by simp)
  ·rw [if_neg c9] at H; exact absurd H (by simp)
 ·rw [if_neg c7] at H; have c7b0 : (t153 == 0) = false := beq_eq_false_iff_ne.mpr c7; have c7b1 : (t153 != 0) = true := bne_iff_ne.mpr c7; simp only [Option.some.injEq, Prod.mk.injEq] at H; obtain ⟨rfl, rfl, rfl⟩ := H
  go_enter Try.func61, Try.ntmps61
  try go_wp2_with (first | ((with_reducible refine gate_dst (N := 4) rfl ?_); refine box_event ?hg (N := 4) ?hd (cs := #[.int .i64 a0_0, .int .i64 a0_1, .int .i64 a0_2, .slice A0_3 l0_3.length c0_3, .slice A0_4 l0_4.length c0_4]) (t := 24) ?hr ?_; (case hd => rfl); (case hg => rfl); (case hr => first | (go_simp; done) | (go_simp; rfl)); intro gb147 hg w30 hbox hb; have BK147 := ak (hbox); have GW147 := gw_ hg HB.1.size; have GE147 := gw_ hg HB.1.size; replace HB := ak (below_step HB.1 hb); clear hb hbox hg) | ((with_reducible refine gate_dst (N := 6) rfl ?_); refine box_event ?hg (N := 6) ?hd (cs := #[.slice A2_0 l2_0.length c2_0, .int .i64 a2_1]) (t := 27) ?hr ?_; (case hd => rfl); (case hg => rfl); (case hr => first | (go_simp; done) | (go_simp; rfl)); intro gb148 hg w31 hbox hb; have n0_ := ak (blk_below BK147.1 hb); have n1_ := ak (below_step HB.1 hb); have n2_ := ak (hbox); have n3_ := gw_ hg HB.1.size; have n4_ := gw_ hg HB.1.size; have n5_ := ak ((by rw [hg]; exact Nat.ne_of_lt (blk_lt BK147.1) : gb147 ≠ gb148)); have n6_ := ak ((by rw [hg]; exact Nat.ne_of_gt (blk_lt BK147.1) : gb148 ≠ gb147)); clear BK147 HB; have BK147 := n0_; have HB := n1_; have BK148 := n2_; have GW148 := n3_; have GE148 := n4_; have NB147_148 := n5_; have NB148_147 := n6_; clear n0_ n1_ n2_ n3_ n4_ n5_ n6_; clear hb hbox hg))
  replace BK147 := ak (blk_drew BK147.1); replace BK148 := ak (blk_drew BK148.1); replace HB := ak (below_drew1 HB.1); refine start_ (n := 11) (S := fun w' => w'.cell? ⟨gb147, 0, none⟩ = some (.int .i64 a0_0) ∧ w'.cell? ⟨gb147, 1, none⟩ = some (.int .i64 a0_1) ∧ w'.cell? ⟨gb147, 2, none⟩ = some (.int .i64 a0_2) ∧ w'.cell? ⟨gb147, 3, none⟩ = some (.slice A0_3 l0_3.length c0_3) ∧ w'.cell? ⟨gb147, 4, none⟩ = some (.slice A0_4 l0_4.length c0_4) ∧ w'.cell? ⟨gb148, 0, none⟩ = some (.slice A2_0 l2_0.length c2_0) ∧ w'.cell? ⟨gb148, 1, none⟩ = some (.int .i64 a2_1)) (ds := []) (bl 11 0) (by kernel_rfl) rfl rfl ⟨(blk_cell BK147.1 0).trans rfl, (blk_cell BK147.1 1).trans rfl, (blk_cell BK147.1 2).trans rfl, (blk_cell BK147.1 3).trans rfl, (blk_cell BK147.1 4).trans rfl, (blk_cell BK148.1 0).trans rfl, (blk_cell BK148.1 1).trans rfl⟩ (fun hHeld => ?_); refine with_tabW puzzle_distances.tab1 puzzle_distances.bits1 (fun HT_ HW_ => ?_); generalize w31.drew = w32 at BK147 BK148 HB hHeld ⊢; refine pu_ 1 (some 16) (bl 11 2) HT_.1 ?_; refine pu_ 4 (some 19) (bl 11 18) HT_.1 ?_; refine tk_ 0 (some 15) (bl 11 19) (take_ofW HT_.1 HW_.1 (by kernel_rfl)) hHeld ?_; refine tk_ 2 (some 17) (bl 11 23) (take_ofW HT_.1 HW_.1 (by kernel_rfl)) hHeld ?_; refine one_ (i := 3) (N := some 18) (bl 11 31) rfl rfl (one_of HT_.1 (by kernel_rfl)) (by decide) (fun K hK => ?_); refine goes_ Try.func32 (by kernel_rfl) rfl #[.agg #[.slice A2_0 l2_0.length c2_0, .int .i64 a2_1]] (by rfl) rfl rfl (sm_) ?_
  with_reducible refine (layout_Shelves.calls k _ _ l2_0 a2_1 t149 _ ?side1 ?side2 A5.1).mono ?_
  (case side1 => exact (Kd.C_below HR2_0.1 HB.1)); (case side2 => exact HC2_0.1); rintro e w33 ⟨rfl, hb⟩; refine ⟨_, rfl, ?_⟩; replace BK147 := ak (blk_below BK147.1 hb); replace BK148 := ak (blk_below BK148.1 hb); replace HB := ak (below_step HB.1 hb); (try clear hb); refine hK.out _ _ ⟨(blk_cell BK147.1 0).trans rfl, (blk_cell BK147.1 1).trans rfl, (blk_cell BK147.1 2).trans rfl, (blk_cell BK147.1 3).trans rfl, (blk_cell BK147.1 4).trans rfl, (blk_cell BK148.1 0).trans rfl, (blk_cell BK148.1 1).trans rfl⟩ (fun hHeld => ?_); clear hK K; refine norm_ (a' := ?_) ?_ ?_; rotate_left
  ·show Act.put _ (some 18) _ = _
   simp only [Act.put, List.setIfInBounds_toArray, List.set_cons_zero, List.set_cons_succ, i64_w, i32_w]; rfl
  refine one_ (i := 5) (N := some 20) (bl 11 63) rfl rfl (one_of HT_.1 (by kernel_rfl)) (by decide) (fun K hK => ?_); refine goes_ Try.func16 (by kernel_rfl) rfl #[.agg #[.int .i64 a0_0, .int .i64 a0_1, .int .i64 a0_2, .slice A0_3 l0_3.length c0_3, .slice A0_4 l0_4.length c0_4], .slice A1 l1.length c1, .int .i64 t149, .int .i64 a3] (by rfl) rfl rfl (sm_) ?_
  with_reducible refine (puzzle_Table.calls a0_0 a0_1 a0_2 _ _ l0_3 _ _ l0_4 _ _ l1 t149 a3 t150 t153 _ ?side1 ?side2 ?side3 ?side4 ?side5 ?side6 A6.1).mono ?_
  (case side1 => exact (Kd.C_below HR0_3.1 HB.1)); (case side2 => exact HC0_3.1); (case side3 => exact (Kd.C_below HR0_4.1 HB.1)); (case side4 => exact HC0_4.1); (case side5 => exact (Kd.C_below HR1.1 HB.1)); (case side6 => exact HC1.1); rintro e w34 ⟨v151, rfl, ho0, hb⟩; refine ⟨_, rfl, ?_⟩; replace BK147 := ak (blk_below BK147.1 hb); replace BK148 := ak (blk_below BK148.1 hb); have HO152 := ak (Kd.R_lower ho0 HB.1.size); replace HB := ak (below_step HB.1 hb); (try clear hb); (try clear ho0); refine hK.out _ _ ⟨(blk_cell BK147.1 0).trans rfl, (blk_cell BK147.1 1).trans rfl, (blk_cell BK147.1 2).trans rfl, (blk_cell BK147.1 3).trans rfl, (blk_cell BK147.1 4).trans rfl, (blk_cell BK148.1 0).trans rfl, (blk_cell BK148.1 1).trans rfl⟩ (fun hHeld => ?_); clear hK K; refine norm_ (a' := ?_) ?_ ?_; rotate_left
  ·show Act.put _ (some 20) _ = _
   simp only [Act.put, List.setIfInBounds_toArray, List.set_cons_zero, List.set_cons_succ, i64_w, i32_w]; rfl
  refine pu_ 6 (some 14) (bl 11 127) HT_.1 ?_; refine pu_ 7 (some 21) (bl 11 255) HT_.1 ?_; refine pu_ 8 (some 22) (bl 11 511) HT_.1 ?_; refine pu_ 9 (some 11) (bl 11 1023) HT_.1 ?_; refine pu_ 10 (some 12) (bl 11 2047) HT_.1 ?_; refine done_ (done_of HT_.1 (by kernel_rfl)) ?_
  try go_wp2
  go_ret3
  exact ⟨_, er_, by first | exact Kd.R_nil _ _ _ _ _ | exact Kd.N_nil _ _ _ _ _ | exact Kd.V_nil _ _ _ _ _ | exact Kd.Q_nil _ _ _ _ _ | exact Kd.S_nil _ _ _ _ _, hq2_ HB.1 GE147.1 GE148.1⟩
def puzzle_Least.f (k : Nat) (a0_0 : Int) (a0_1 : Int) (a0_2 : Int) (l0_3 : List Int) (l0_4 : List Int) (l1 : List Int) (l2_0 : List Bool) (a2_1 : Int) (a3 : Int) : Option (Int × Int) := (puzzle_distances.f k a0_0 a0_1 a0_2 l0_3 l0_4 l1 l2_0 a2_1 a3).bind fun bt158 => (some (bt158.2.1, bt158.2.2))
set_option maxHeartbeats 8000000 in
set_option maxRecDepth 100000 in
theorem puzzle_Least.calls (k : Nat) (a0_0 : Int) (a0_1 : Int) (a0_2 : Int) (A0_3 : Option Addr) (c0_3 : Nat) (l0_3 : List Int) (A0_4 : Option Addr) (c0_4 : Nat) (l0_4 : List Int) (A1 : Option Addr) (c1 : Nat) (l1 : List Int) (A2_0 : Option Addr) (c2_0 : Nat) (l2_0 : List Bool) (a2_1 : Int) (a3 : Int) (r1 : Int) (r2 : Int) (w : World) (hr0_3 : Kd.C (Kd.int .i64) w A0_3 l0_3.length l0_3) (hc0_3 : l0_3.length ≤ c0_3) (hr0_4 : Kd.C (Kd.int .i64) w A0_4 l0_4.length l0_4) (hc0_4 : l0_4.length ≤ c0_4) (hr1 : Kd.C (Kd.int .i64) w A1 l1.length l1) (hc1 : l1.length ≤ c1) (hr2_0 : Kd.C Kd.bool w A2_0 l2_0.length l2_0) (hc2_0 : l2_0.length ≤ c2_0) (h : puzzle_Least.f k a0_0 a0_1 a0_2 l0_3 l0_4 l1 l2_0 a2_1 a3 = some (r1, r2)) :
  Calls Try.prog 18 #[.agg #[.int .i64 a0_0, .int .i64 a0_1, .int .i64 a0_2, .slice A0_3 l0_3.length c0_3, .slice A0_4 l0_4.length c0_4], .slice A1 l1.length c1, .agg #[.slice A2_0 l2_0.length c2_0, .int .i64 a2_1], .int .i64 a3] w fun e w' => e = .returned (.tuple #[.int .i64 r1, .int .i64 r2]) ∧ Below w.heap.size w w' := by
 have hu24 := Try.underlying24; have hu27 := Try.underlying27; have HR0_3 := ak hr0_3; have HC0_3 := ak hc0_3; clear hr0_3 hc0_3; have HR0_4 := ak hr0_4; have HC0_4 := ak hc0_4; clear hr0_4 hc0_4; have HR1 := ak hr1; have HC1 := ak hc1; clear hr1 hc1; have HR2_0 := ak hr2_0; have HC2_0 := ak hc2_0; clear hr2_0 hc2_0; have HB := ak (Below.refl w.heap.size w); have H : ((puzzle_distances.f k a0_0 a0_1 a0_2 l0_3 l0_4 l1 l2_0 a2_1 a3).bind fun bt158 => (some (bt158.2.1, bt158.2.2))) = some (r1, r2) := h; clear h; replace H := Option.bind_eq_some_iff.mp H; obtain ⟨⟨t158, t161, t162⟩, A50, H⟩ := H
 replace H : (some (t161, t162)) = some (r1, r2) := H
 have A5 := ak A50; clear A50; simp only [Option.some.injEq, Prod.mk.injEq] at H; obtain ⟨rfl, rfl⟩ := H
 go_enter Try.func18, Try.ntmps18
 go_wp2_with (first | ((with_reducible refine gate_dst (N := 4) rfl ?_); refine box_event ?hg (N := 4) ?hd (cs := #[.int .i64 a0_0, .int .i64 a0_1, .int .i64 a0_2, .slice A0_3 l0_3.length c0_3, .slice A0_4 l0_4.length c0_4]) (t := 24) ?hr ?_; (case hd => rfl); (case hg => rfl); (case hr => first | (go_simp; done) | (go_simp; rfl)); intro gb156 hg w6 hbox hb; have BK156 := ak (hbox); have GW156 := gw_ hg HB.1.size; have GE156 := gw_ hg HB.1.size; replace HB := ak (below_step HB.1 hb); clear hb hbox hg) | ((with_reducible refine gate_dst (N := 6) rfl ?_); refine box_event ?hg (N := 6) ?hd (cs := #[.slice A2_0 l2_0.length c2_0, .int .i64 a2_1]) (t := 27) ?hr ?_; (case hd => rfl); (case hg => rfl); (case hr => first | (go_simp; done) | (go_simp; rfl)); intro gb157 hg w7 hbox hb; have n0_ := ak (blk_below BK156.1 hb); have n1_ := ak (below_step HB.1 hb); have n2_ := ak (hbox); have n3_ := gw_ hg HB.1.size; have n4_ := gw_ hg HB.1.size; have n5_ := ak ((by rw [hg]; exact Nat.ne_of_lt (blk_lt BK156.1) : gb156 ≠ gb157)); have n6_ := ak ((by rw [hg]; exact Nat.ne_of_gt (blk_lt BK156.1) : gb157 ≠ gb156)); clear BK156 HB; have BK156 := n0_; have HB := n1_; have BK157 := n2_; have GW157 := n3_; have GE157 := n4_; have NB156_157 := n5_; have NB157_156 := n6_; clear n0_ n1_ n2_ n3_ n4_ n5_ n6_; clear hb hbox hg; have hnb8 := NB156_157.1; have hnc8 := NB157_156.1; obtain ⟨hcz9_0, hcz9_1, hcz9_2, hcz9_3, hcz9_4, hfz9_0, hfz9_1, hfz9_2, hfz9_3, hfz9_4⟩ := bk5 BK156.1; obtain ⟨hcz10_0, hcz10_1, hfz10_0, hfz10_1⟩ := bk2 BK157.1) | ((with_reducible refine gate_callee (f := 61) rfl ?_); refine goesL_ (some 18) rfl rfl Try.func61 (by kernel_rfl) rfl #[.agg #[.int .i64 a0_0, .int .i64 a0_1, .int .i64 a0_2, .slice A0_3 l0_3.length c0_3, .slice A0_4 l0_4.length c0_4], .slice A1 l1.length c1, .agg #[.slice A2_0 l2_0.length c2_0, .int .i64 a2_1], .int .i64 a3] rfl (sm_) ?_; (with_reducible refine (puzzle_distances.calls k a0_0 a0_1 a0_2 _ _ l0_3 _ _ l0_4 _ _ l1 _ _ l2_0 a2_1 a3 t158 t161 t162 _ ?side1 ?side2 ?side3 ?side4 ?side5 ?side6 ?side7 ?side8 A5.1).mono ?_); (case side1 => exact (Kd.C_below HR0_3.1 HB.1)); (case side2 => exact HC0_3.1); (case side3 => exact (Kd.C_below HR0_4.1 HB.1)); (case side4 => exact HC0_4.1); (case side5 => exact (Kd.C_below HR1.1 HB.1)); (case side6 => exact HC1.1); (case side7 => exact (Kd.C_below HR2_0.1 HB.1)); (case side8 => exact HC2_0.1); rintro e w11 ⟨v159, rfl, ho0, hb⟩; refine ⟨_, rfl, ?_⟩; replace BK156 := ak (blk_below BK156.1 hb); replace BK157 := ak (blk_below BK157.1 hb); have HO160 := ak (Kd.R_lower ho0 HB.1.size); replace HB := ak (below_step HB.1 hb); (try clear hb); (try clear ho0)))
 go_ret2
 exact ⟨er_, hq2_ HB.1 GE156.1 GE157.1⟩
def layout_Shifts.f (a0_0 : Int) (a0_1 : Int) (a0_2 : Int) (l0_3 : List Int) (l0_4 : List Int) (l1 : List Int) (l2_0 : List Bool) (a2_1 : Int) : Option ((List (S51))) := (layout_shifts.f a0_0 a0_1 a0_2 l0_3 l0_4 l1 l2_0 a2_1 true).bind fun t165 => (some t165)
set_option maxHeartbeats 8000000 in
set_option maxRecDepth 100000 in
theorem layout_Shifts.calls (a0_0 : Int) (a0_1 : Int) (a0_2 : Int) (A0_3 : Option Addr) (c0_3 : Nat) (l0_3 : List Int) (A0_4 : Option Addr) (c0_4 : Nat) (l0_4 : List Int) (A1 : Option Addr) (c1 : Nat) (l1 : List Int) (A2_0 : Option Addr) (c2_0 : Nat) (l2_0 : List Bool) (a2_1 : Int) (r : List (S51)) (w : World) (hr0_3 : Kd.C (Kd.int .i64) w A0_3 l0_3.length l0_3) (hc0_3 : l0_3.length ≤ c0_3) (hr0_4 : Kd.C (Kd.int .i64) w A0_4 l0_4.length l0_4) (hc0_4 : l0_4.length ≤ c0_4) (hr1 : Kd.C (Kd.int .i64) w A1 l1.length l1) (hc1 : l1.length ≤ c1) (hr2_0 : Kd.C Kd.bool w A2_0 l2_0.length l2_0) (hc2_0 : l2_0.length ≤ c2_0) (h : layout_Shifts.f a0_0 a0_1 a0_2 l0_3 l0_4 l1 l2_0 a2_1 = some r) :
  Calls Try.prog 29 #[.agg #[.int .i64 a0_0, .int .i64 a0_1, .int .i64 a0_2, .slice A0_3 l0_3.length c0_3, .slice A0_4 l0_4.length c0_4], .slice A1 l1.length c1, .agg #[.slice A2_0 l2_0.length c2_0, .int .i64 a2_1]] w fun e w' => ∃ v0_ : Value, e = .returned (v0_) ∧ Kd.R k51 51 w' w.heap.size (fun _ => True) v0_ r ∧ Below w.heap.size w w' := by
 have hu24 := Try.underlying24; have hu27 := Try.underlying27; have HR0_3 := ak hr0_3; have HC0_3 := ak hc0_3; clear hr0_3 hc0_3; have HR0_4 := ak hr0_4; have HC0_4 := ak hc0_4; clear hr0_4 hc0_4; have HR1 := ak hr1; have HC1 := ak hc1; clear hr1 hc1; have HR2_0 := ak hr2_0; have HC2_0 := ak hc2_0; clear hr2_0 hc2_0; have HB := ak (Below.refl w.heap.size w); have H : ((layout_shifts.f a0_0 a0_1 a0_2 l0_3 l0_4 l1 l2_0 a2_1 true).bind fun t165 => (some t165)) = some r := h; clear h; replace H := Option.bind_eq_some_iff.mp H; obtain ⟨t165, A40, H⟩ := H
 replace H : (some t165) = some r := H
 have A4 := ak A40; clear A40; obtain rfl := Option.some.inj H
 go_enter Try.func29, Try.ntmps29
 go_wp2_with (first | ((with_reducible refine gate_dst (N := 3) rfl ?_); refine box_event ?hg (N := 3) ?hd (cs := #[.int .i64 a0_0, .int .i64 a0_1, .int .i64 a0_2, .slice A0_3 l0_3.length c0_3, .slice A0_4 l0_4.length c0_4]) (t := 24) ?hr ?_; (case hd => rfl); (case hg => rfl); (case hr => first | (go_simp; done) | (go_simp; rfl)); intro gb163 hg w5 hbox hb; have BK163 := ak (hbox); have GW163 := gw_ hg HB.1.size; have GE163 := gw_ hg HB.1.size; replace HB := ak (below_step HB.1 hb); clear hb hbox hg) | ((with_reducible refine gate_dst (N := 5) rfl ?_); refine box_event ?hg (N := 5) ?hd (cs := #[.slice A2_0 l2_0.length c2_0, .int .i64 a2_1]) (t := 27) ?hr ?_; (case hd => rfl); (case hg => rfl); (case hr => first | (go_simp; done) | (go_simp; rfl)); intro gb164 hg w6 hbox hb; have n0_ := ak (blk_below BK163.1 hb); have n1_ := ak (below_step HB.1 hb); have n2_ := ak (hbox); have n3_ := gw_ hg HB.1.size; have n4_ := gw_ hg HB.1.size; have n5_ := ak ((by rw [hg]; exact Nat.ne_of_lt (blk_lt BK163.1) : gb163 ≠ gb164)); have n6_ := ak ((by rw [hg]; exact Nat.ne_of_gt (blk_lt BK163.1) : gb164 ≠ gb163)); clear BK163 HB; have BK163 := n0_; have HB := n1_; have BK164 := n2_; have GW164 := n3_; have GE164 := n4_; have NB163_164 := n5_; have NB164_163 := n6_; clear n0_ n1_ n2_ n3_ n4_ n5_ n6_; clear hb hbox hg; have hnb7 := NB163_164.1; have hnc7 := NB164_163.1; obtain ⟨hcz8_0, hcz8_1, hcz8_2, hcz8_3, hcz8_4, hfz8_0, hfz8_1, hfz8_2, hfz8_3, hfz8_4⟩ := bk5 BK163.1; obtain ⟨hcz9_0, hcz9_1, hfz9_0, hfz9_1⟩ := bk2 BK164.1) | ((with_reducible refine gate_callee (f := 65) rfl ?_); refine goesL_ (some 10) rfl rfl Try.func65 (by kernel_rfl) rfl #[.agg #[.int .i64 a0_0, .int .i64 a0_1, .int .i64 a0_2, .slice A0_3 l0_3.length c0_3, .slice A0_4 l0_4.length c0_4], .slice A1 l1.length c1, .agg #[.slice A2_0 l2_0.length c2_0, .int .i64 a2_1], .bool true] rfl (sm_) ?_; (with_reducible refine (layout_shifts.calls a0_0 a0_1 a0_2 _ _ l0_3 _ _ l0_4 _ _ l1 _ _ l2_0 a2_1 true t165 _ ?side1 ?side2 ?side3 ?side4 ?side5 ?side6 ?side7 ?side8 A4.1).mono ?_); (case side1 => exact (Kd.C_below HR0_3.1 HB.1)); (case side2 => exact HC0_3.1); (case side3 => exact (Kd.C_below HR0_4.1 HB.1)); (case side4 => exact HC0_4.1); (case side5 => exact (Kd.C_below HR1.1 HB.1)); (case side6 => exact HC1.1); (case side7 => exact (Kd.C_below HR2_0.1 HB.1)); (case side8 => exact HC2_0.1); rintro e w10 ⟨v166, rfl, ho0, hb⟩; refine ⟨_, rfl, ?_⟩; replace BK163 := ak (blk_below BK163.1 hb); replace BK164 := ak (blk_below BK164.1 hb); have HO167 := ak (Kd.R_lower ho0 HB.1.size); replace HB := ak (below_step HB.1 hb); (try clear hb); (try clear ho0)))
 go_ret
 exact ⟨_, er_, by (with_reducible repeat (first | apply Kd.R_alloc | apply Kd.R_drewN | apply Kd.R_drew)); exact HO167.1, hq2_ HB.1 GE163.1 GE164.1⟩
end Go.Proofs.Ytogmjilaiopjmaa.P
end
section
namespace Go.Proofs.Ytogmjilaiopjmaa.P
open Go.RowKit Go.Proofs.YtogmjilaiopjmaaW.PrintWords Go.Proofs.YtogmjilaiopjmaaW.PrintLast Go.Proofs.YtogmjilaiopjmaaW.PrintMore
theorem wrap_nat {i : Nat} (h : i ≤ 1000000000000000) : wrap64 ((i : Int) + 1) = ((i + 1 : Nat) : Int) := by unfold wrap64; omega
theorem shel_take (l : List Bool) (i : Nat) (h : i < l.length) : shel (l.take (i + 1)) = shel (l.take i) + if l.getD i false = true then 1 else 0 := by
 unfold shel
 rw [List.take_succ_eq_append_getElem h, List.count_append, List.getD_eq_getElem?_getD, List.getElem?_eq_getElem h]
 cases l[i] <;> simp
theorem shelvesK_l0 (l : List Bool) (hl : l.length ≤ 1000) : ∀ (m k i : Nat), i + m = l.length → m < k → layout_Shelves.l0 k ((shel (l.take i) : Nat) : Int) l (l.length : Int) (i : Int) = some (shel l : Int)
 | 0, 0, _, _, h => by omega
 | 0, k + 1, i, h, _ => by
  simp only [layout_Shelves.l0]; rw [if_neg (by omega), List.take_of_length_le (by omega)]
 | m + 1, 0, _, _, h => by omega
 | m + 1, k + 1, i, h, hk => by
  have ih := shelvesK_l0 l hl m k (i + 1) (by omega) (by omega)
  have hi : i < l.length := by omega
  have hs := shel_take l i hi; have hb : shel (l.take i) ≤ l.length := Nat.le_trans (List.count_le_length) (by simp; omega); simp only [layout_Shelves.l0]; rw [if_pos (by omega), if_pos (by omega), if_pos (by omega), wrap_nat (by omega), wrap_nat (by omega)]
  have e : rdOf false l (i : Int) = l.getD i false := by unfold rdOf; rw [Int.toNat_natCast]
  rw [e]
  split
  ·rename_i hb2
   rw [if_pos hb2] at hs; rw [← hs]; exact ih
  ·rename_i hb2
   rw [if_neg hb2] at hs; rw [hs, Nat.add_zero] at ih; exact ih
theorem shelvesK_f (l : List Bool) (t : Int) (hl : l.length ≤ 1000) (k : Nat) (hk : l.length < k) : layout_Shelves.f k l t = some (shel l : Int) := by
 have h := shelvesK_l0 l hl l.length k 0 (by omega) hk
 unfold layout_Shelves.f
 simpa [shel] using h
structure Lay (n k : Nat) (l : List Bool) (t x : Nat) : Prop where
 len : l.length = n
 lt : t < n
 at_ : l.getD t false = true
 sh : shel l = k
 rank : rankN l t = x
section
variable {n k : Nat} {l : List Bool} {t x : Nat}
theorem Lay.of_ok {l : List Bool} {t : Int} (h : okL l t = true) : Lay l.length (shel l) l t.toNat (rankN l t.toNat) := by
 obtain ⟨h1, h2, h3, h4, h5⟩ := okL_iff.1 h; exact ⟨rfl, by omega, h5, rfl, rfl⟩
theorem Lay.k1 (h : Lay n k l t x) : 1 ≤ k := by rw [← h.sh]; exact shel_pos h.at_
theorem Lay.kn (h : Lay n k l t x) : k ≤ n := by rw [← h.sh, ← h.len]; exact List.count_le_length
theorem Lay.x_lt (h : Lay n k l t x) : x < cntN n k := by
 have := rank_lt (l := l) (t := t) (by rw [h.len]; exact h.lt) h.at_
 rwa [h.len, h.sh, h.rank] at this
theorem Lay.unr (h : Lay n k l t x) : unrL n k x = l ∧ unrT n k x = t := by
 have := unr_rank (l := l) (t := t) (by rw [h.len]; exact h.lt) h.at_; rw [h.len, h.sh, h.rank] at this; exact ⟨this.2, this.1⟩
theorem Lay.of_rank {n k x : Nat} (hk : 1 ≤ k) (hk2 : k ≤ n) (hx : x < cntN n k) : Lay n k (unrL n k x) (unrT n k x) x :=
 ⟨unrL_len hx, unrT_lt hx, (unrL_right hk hk2 hx).2, (unrL_right hk hk2 hx).1, rank_unr hk hk2 hx⟩
theorem Lay.rank_f (h : Lay n k l t x) (hn : n ≤ 24) : layout_Rank.f l (t : Int) = some (x : Int) := by
 rw [P.rank_f (by rw [h.len]; exact hn) (by rw [h.len]; exact h.lt) h.at_, h.rank]
variable {W H D : Int} {K O r : List Int}
theorem Lay.shifts_f (h : Lay n k l t x) (hf : FloorOk W H D K O) (hs : r.Pairwise (· < ·)) (hr : r.length = n) (hn : n ≤ 24) : layout_Shifts.f W H D K O r l (t : Int) = some (shiftsN W H D K O r l true) := by
 unfold layout_Shifts.f layout_shifts.f
 have := h.len; have := h.lt; rw [if_pos ⟨hf, hs, by omega, by omega, by omega, by omega⟩]; rfl
end
theorem least_range {W H D : Int} {K O r : List Int} {l : List Bool} {t goal : Int} (hl : okL l t = true) (hlen : l.length = r.length) (hn : r.length ≤ 12) (hg : goal < 0 ∨ (r.length : Int) ≤ goal) (k : Nat) (hk : 30 ≤ k) :
  puzzle_Least.f k W H D K O r l t goal = some (0, 3) := by
 have h24 : l.length ≤ 24 := by omega
 unfold puzzle_Least.f puzzle_distances.f
 rw [shelvesK_f l t (by omega) k (by omega), Option.bind_some]
 have e : puzzle_Table.f W H D K O r (shel l : Int) goal = some ([], 3) := by
  unfold puzzle_Table.f
  rw [if_neg (by omega), if_pos (.inr (.inr hg))]
 rw [e, Option.bind_some]
 simp
theorem least_in {W H D : Int} {K O r : List Int} {l : List Bool} {t : Int} {g : Nat} (hf : FloorOk W H D K O) (hs : r.Pairwise (· < ·)) (hl : okL l t = true) (hlen : l.length = r.length) (hn : r.length ≤ 12) (hg : g < r.length) (k : Nat) (hk : 30 ≤ k) :
  ∃ out, puzzle_Table.f W H D K O r (shel l : Int) (g : Int) = some (out, 0) ∧ TableOk W H D K O r r.length (shel l) (g : Int) out ∧
   puzzle_distances.f k W H D K O r l t (g : Int) = some (if out.getD (rankN l t.toNat) 0 < 0 then ([], 0, 14) else (out, out.getD (rankN l t.toNat) 0, 0)) := by
 have hL := Lay.of_ok hl; rw [hlen] at hL; obtain ⟨out, ht, hok⟩ := table_f (r := r) (k := shel l) (g := g) hf hs hL.k1 hL.kn hg hn; refine ⟨out, ht, hok, ?_⟩
 have h24 : l.length ≤ 24 := by omega
 have hx := hL.x_lt; have hol := hok.len
 have hT : ((t.toNat : Nat) : Int) = t := by have := (okL_iff.1 hl).2.2.1; omega
 have hrk := hL.rank_f (by omega); rw [hT] at hrk
 unfold puzzle_distances.f
 rw [shelvesK_f l t (by omega) k (by omega), Option.bind_some, ht, Option.bind_some]; dsimp only; rw [if_pos rfl, hrk, Option.bind_some, if_pos (by omega), if_pos (by omega)]
 unfold rd
 rw [Int.toNat_natCast]
 split <;> rfl
theorem least_f {W H D : Int} {K O r : List Int} {l : List Bool} {t : Int} {g : Nat} (hf : FloorOk W H D K O) (hs : r.Pairwise (· < ·)) (hl : okL l t = true) (hlen : l.length = r.length) (hn : r.length ≤ 12) (hg : g < r.length) (k : Nat) (hk : 30 ≤ k) :
  ∃ out, puzzle_Table.f W H D K O r (shel l : Int) (g : Int) = some (out, 0) ∧ TableOk W H D K O r r.length (shel l) (g : Int) out ∧
   puzzle_Least.f k W H D K O r l t (g : Int) = some (if out.getD (rankN l t.toNat) 0 < 0 then (0, 14) else (out.getD (rankN l t.toNat) 0, 0)) := by
 obtain ⟨out, h1, h2, h3⟩ := least_in hf hs hl hlen hn hg k hk; refine ⟨out, h1, h2, ?_⟩
 unfold puzzle_Least.f
 rw [h3, Option.bind_some]
 split <;> rfl
end Go.Proofs.Ytogmjilaiopjmaa.P
end
section
namespace Go.Proofs.Ytogmjilaiopjmaa.P
open Go.RowKit Go.Proofs.YtogmjilaiopjmaaW.PrintWords Go.Proofs.YtogmjilaiopjmaaW.PrintLast Go.Proofs.YtogmjilaiopjmaaW.PrintMore
attribute [local go_sem] max2_int min2_int max_two min_two max_three min_three max_four min_four
mutual
def puzzle_Solve.l0 : Nat → List Int → List Int → Int → List (S51) → Int → Int → Int → List Int → List Int → List Bool → Int → Option ((List (S51)) × Int)
 | 0, _, _, _, _, _, _, _, _, _, _, _ => none
 | k + 1, x1, x10, x11, x13, x169000, x169001, x169002, x169003, x169004, x170000, x170001 => if x11 > 0 then ((layout_Shifts.f x169000 x169001 x169002 x169003 x169004 x1 x170000 x170001).bind fun t175 => (puzzle_Solve.l1 k x1 x10 x11 x13 t175 (t175.length : Int) 0 x169000 x169001 x169002 x169003 x169004 x170000 x170001)) else (some (x13, 0))
def puzzle_Solve.l1 : Nat → List Int → List Int → Int → List (S51) → List (S51) → Int → Int → Int → Int → Int → List Int → List Int → List Bool → Int → Option ((List (S51)) × Int)
 | 0, _, _, _, _, _, _, _, _, _, _, _, _, _, _ => none
 | k + 1, x1, x10, x11, x13, x37, x38, x39, x169000, x169001, x169002, x169003, x169004, x170000, x170001 => if x39 < x38 then (if 0 ≤ x39 then (if x39 < (x37.length : Int) then ((layout_Do.f x170000 x170001 ((rd_T51 x37 x39).f0) ((rd_T51 x37 x39).f1)).bind fun bt180 => ((layout_Rank.f bt180.1 bt180.2.1).bind fun t186 => (if 0 ≤ t186 then (if t186 < (x10.length : Int) then (if (rd x10 t186) = (wrap64 (x11 - 1)) then (if x13.length < 8796093022208 then (puzzle_Solve.l0 k x1 x10 (wrap64 (x11 - 1)) (x13 ++ [(⟨(rd_T51 x37 x39).f0, (rd_T51 x37 x39).f1⟩ : S51)]) x169000 x169001 x169002 x169003 x169004 bt180.1 bt180.2.1) else (none)) else (puzzle_Solve.l1 k x1 x10 x11 x13 x37 x38 (wrap64 (x39 + 1)) x169000 x169001 x169002 x169003 x169004 x170000 x170001)) else (none)) else (none)))) else (none)) else (none)) else (puzzle_Solve.l0 k x1 x10 (wrap64 (x11 - 1)) x13 x169000 x169001 x169002 x169003 x169004 x170000 x170001)
end
def puzzle_Solve.f (k : Nat) (a0_0 : Int) (a0_1 : Int) (a0_2 : Int) (l0_3 : List Int) (l0_4 : List Int) (l1 : List Int) (l2_0 : List Bool) (a2_1 : Int) (a3 : Int) : Option ((List (S51)) × Int) := (puzzle_distances.f k a0_0 a0_1 a0_2 l0_3 l0_4 l1 l2_0 a2_1 a3).bind fun bt170 => (if bt170.2.2 = 0 then (puzzle_Solve.l0 k l1 bt170.1 bt170.2.1 ([] : List (S51)) a0_0 a0_1 a0_2 l0_3 l0_4 l2_0 a2_1) else (some (([] : List (S51)), bt170.2.2)))
set_option maxHeartbeats 8000000 in
set_option maxRecDepth 100000 in
theorem puzzle_Solve.calls (k : Nat) (a0_0 : Int) (a0_1 : Int) (a0_2 : Int) (A0_3 : Option Addr) (c0_3 : Nat) (l0_3 : List Int) (A0_4 : Option Addr) (c0_4 : Nat) (l0_4 : List Int) (A1 : Option Addr) (c1 : Nat) (l1 : List Int) (P2_0_ : Nat → Prop) (A2_0 : Option Addr) (c2_0 : Nat) (l2_0 : List Bool) (a2_1 : Int) (a3 : Int) (r1 : List (S51)) (r2 : Int) (w : World) (hr0_3 : Kd.C (Kd.int .i64) w A0_3 l0_3.length l0_3) (hc0_3 : l0_3.length ≤ c0_3) (hr0_4 : Kd.C (Kd.int .i64) w A0_4 l0_4.length l0_4) (hc0_4 : l0_4.length ≤ c0_4) (hr1 : Kd.C (Kd.int .i64) w A1 l1.length l1) (hc1 : l1.length ≤ c1) (hs2_0 : Kd.V Kd.bool 4 w w.heap.size (fun k_ => P2_0_ k_) (.slice A2_0 l2_0.length c2_0) l2_0) (h : puzzle_Solve.f k a0_0 a0_1 a0_2 l0_3 l0_4 l1 l2_0 a2_1 a3 = some (r1, r2)) :
  Calls Try.prog 20 #[.agg #[.int .i64 a0_0, .int .i64 a0_1, .int .i64 a0_2, .slice A0_3 l0_3.length c0_3, .slice A0_4 l0_4.length c0_4], .slice A1 l1.length c1, .agg #[.slice A2_0 l2_0.length c2_0, .int .i64 a2_1], .int .i64 a3] w fun e w' => ∃ v0_ : Value, e = .returned (.tuple #[v0_, .int .i64 r2]) ∧ Kd.R k51 51 w' w.heap.size (fun k_ => (w.heap.size ≤ k_)) v0_ r1 ∧ Below w.heap.size w w' := by
 have hu24 := Try.underlying24; have hu27 := Try.underlying27; have hu51 := Try.underlying51; have HR0_3 := ak hr0_3; have HC0_3 := ak hc0_3; clear hr0_3 hc0_3; have HR0_4 := ak hr0_4; have HC0_4 := ak hc0_4; clear hr0_4 hc0_4; have HR1 := ak hr1; have HC1 := ak hc1; clear hr1 hc1; have HO2_0 := ak (show Kd.V Kd.bool 4 w w.heap.size (fun k_ => (P2_0_ k_ ∨ w.heap.size ≤ k_)) (.slice A2_0 l2_0.length c2_0) l2_0 from Kd.V_mono hs2_0 (fun k_ hk => .inl hk)); have HB := ak (Below.refl w.heap.size w); have H : ((puzzle_distances.f k a0_0 a0_1 a0_2 l0_3 l0_4 l1 l2_0 a2_1 a3).bind fun bt170 => (if bt170.2.2 = 0 then (puzzle_Solve.l0 k l1 bt170.1 bt170.2.1 ([] : List (S51)) a0_0 a0_1 a0_2 l0_3 l0_4 l2_0 a2_1) else (some (([] : List (S51)), bt170.2.2)))) = some (r1, r2) := h; clear h; replace H := Option.bind_eq_some_iff.mp H; obtain ⟨⟨t170, t173, t174⟩, A50, H⟩ := H
 replace H : (if t174 = 0 then (puzzle_Solve.l0 k l1 t170 t173 ([] : List (S51)) a0_0 a0_1 a0_2 l0_3 l0_4 l2_0 a2_1) else (some (([] : List (S51)), t174))) = some (r1, r2) := H
 have A5 := ak A50; clear A50
 by_cases c6 : t174 = 0
 ·rw [if_pos c6] at H; have c6b0 : (t174 == 0) = true := beq_iff_eq.mpr c6; have c6b1 : (t174 != 0) = false := bne_eq_false_iff_eq.mpr c6; clear c6; have H' := ak H; clear H
  go_enter Try.func20, Try.ntmps20
  go_wp2_with (first | ((with_reducible refine gate_dst (N := 4) rfl ?_); refine box_event ?hg (N := 4) ?hd (cs := #[.int .i64 a0_0, .int .i64 a0_1, .int .i64 a0_2, .slice A0_3 l0_3.length c0_3, .slice A0_4 l0_4.length c0_4]) (t := 24) ?hr ?_; (case hd => rfl); (case hg => rfl); (case hr => first | (go_simp; done) | (go_simp; rfl)); intro gb168 hg w7 hbox hb; replace HO2_0 := ak (Kd.V_below (Kd.V_elderB HO2_0.1 gb168 (Nat.le_of_eq hg.symm)) hb); have BK168 := ak (hbox); have GW168 := gw_ hg HB.1.size; have GE168 := gw_ hg HB.1.size; replace HB := ak (below_step HB.1 hb); clear hb hbox hg) | ((with_reducible refine gate_dst (N := 6) rfl ?_); refine box_event ?hg (N := 6) ?hd (cs := #[.slice A2_0 l2_0.length c2_0, .int .i64 a2_1]) (t := 27) ?hr ?_; (case hd => rfl); (case hg => rfl); (case hr => first | (go_simp; done) | (go_simp; rfl)); intro gb169 hg w8 hbox hb; have n0_ := ak (Kd.V_below (Kd.V_elderB HO2_0.1 gb169 (Nat.le_of_eq hg.symm)) hb); have n1_ := ak (blk_below BK168.1 hb); have n2_ := ak (below_step HB.1 hb); have n3_ := ak (hbox); have n4_ := gw_ hg HB.1.size; have n5_ := gw_ hg HB.1.size; have n6_ := ak ((by rw [hg]; exact Nat.ne_of_lt (blk_lt BK168.1) : gb168 ≠ gb169)); have n7_ := ak ((by rw [hg]; exact Nat.ne_of_gt (blk_lt BK168.1) : gb169 ≠ gb168)); clear HO2_0 BK168 HB; have HO2_0 := n0_; have BK168 := n1_; have HB := n2_; have BK169 := n3_; have GW169 := n4_; have GE169 := n5_; have NB168_169 := n6_; have NB169_168 := n7_; clear n0_ n1_ n2_ n3_ n4_ n5_ n6_ n7_; clear hb hbox hg; have hnb9 := NB168_169.1; have hnc9 := NB169_168.1; obtain ⟨hcz10_0, hcz10_1, hcz10_2, hcz10_3, hcz10_4, hfz10_0, hfz10_1, hfz10_2, hfz10_3, hfz10_4⟩ := bk5 BK168.1; obtain ⟨hcz11_0, hcz11_1, hfz11_0, hfz11_1⟩ := bk2 BK169.1) | ((with_reducible refine gate_callee (f := 61) rfl ?_); refine goesL_ (some 23) rfl rfl Try.func61 (by kernel_rfl) rfl #[.agg #[.int .i64 a0_0, .int .i64 a0_1, .int .i64 a0_2, .slice A0_3 l0_3.length c0_3, .slice A0_4 l0_4.length c0_4], .slice A1 l1.length c1, .agg #[.slice A2_0 l2_0.length c2_0, .int .i64 a2_1], .int .i64 a3] rfl (sm_) ?_; (with_reducible refine (puzzle_distances.calls k a0_0 a0_1 a0_2 _ _ l0_3 _ _ l0_4 _ _ l1 _ _ l2_0 a2_1 a3 t170 t173 t174 _ ?side1 ?side2 ?side3 ?side4 ?side5 ?side6 ?side7 ?side8 A5.1).mono ?_); (case side1 => exact (Kd.C_below HR0_3.1 HB.1)); (case side2 => exact HC0_3.1); (case side3 => exact (Kd.C_below HR0_4.1 HB.1)); (case side4 => exact HC0_4.1); (case side5 => exact (Kd.C_below HR1.1 HB.1)); (case side6 => exact HC1.1); (case side7 => exact (Kd.V_reads' HO2_0.1).2.2); (case side8 => exact (Kd.V_reads' HO2_0.1).2.1); rintro e w12 ⟨v171, rfl, ho0, hb⟩; refine ⟨_, rfl, ?_⟩; replace HO2_0 := ak (Kd.V_elder' HO2_0.1 (Kd.R_base ho0) hb); replace BK168 := ak (blk_below BK168.1 hb); replace BK169 := ak (blk_below BK169.1 hb); have HO172 := ak (Kd.R_lower (Kd.R_newM (M := fun k_ => (w.heap.size ≤ k_)) ho0 HB.1.size (fun k_ h_ => h_)) HB.1.size); replace HB := ak (below_step HB.1 hb); (try clear hb); (try clear ho0)))
  go_loopg [11, 13] k (fun kq v11 v13 w' => ∃ (x11_1 : Int) (x13_1 : List (S51)) (x170000_1 : List Bool) (x170001_1 : Int) (u170000 : Value), v11 = .int .i64 x11_1 ∧ Aside0 (puzzle_Solve.l0 kq l1 t170 x11_1 x13_1 a0_0 a0_1 a0_2 l0_3 l0_4 x170000_1 x170001_1 = some (r1, r2)) ∧ Aside0 (kq ≤ k) ∧ Aside0 (Kd.R (Kd.int .i64) 3 w' w.heap.size (fun k_ => (w.heap.size ≤ k_)) v171 t170) ∧ Aside0 (Kd.R k51 51 w' w.heap.size (fun k_ => (w.heap.size ≤ k_)) v13 x13_1) ∧ Aside0 (Kd.V Kd.bool 4 w' w.heap.size (fun k_ => (P2_0_ k_ ∨ w.heap.size ≤ k_) ∧ some k_ ≠ (v171 : Value).ownBlock ∧ some k_ ≠ (v13 : Value).ownBlock ∧ k_ ≠ gb168 ∧ k_ ≠ gb169) u170000 x170000_1) ∧ Aside0 (w'.heap[gb168]? = some (.cells #[.int .i64 a0_0, .int .i64 a0_1, .int .i64 a0_2, (.slice A0_3 l0_3.length c0_3), (.slice A0_4 l0_4.length c0_4)] 24 (0, 0))) ∧ Aside0 (w'.heap[gb169]? = some (.cells #[u170000, .int .i64 x170001_1] 27 (0, 0))) ∧ Aside0 (Below w.heap.size w w'))
  case atStart => exact ⟨(t173), (([] : List (S51))), (l2_0), (a2_1), (.slice A2_0 l2_0.length c2_0), (rs_), H', ⟨Nat.le_refl _⟩, ⟨by (with_reducible repeat (first | apply Kd.R_alloc | apply Kd.R_drewN | apply Kd.R_drew)); exact Kd.R_mono HO172.1 (fun _ hk => hk.1)⟩, ⟨by first | exact Kd.R_nil _ _ _ _ _ | exact Kd.N_nil _ _ _ _ _ | exact Kd.V_nil _ _ _ _ _ | exact Kd.Q_nil _ _ _ _ _ | exact Kd.S_nil _ _ _ _ _⟩, ⟨by (with_reducible repeat (first | apply Kd.V_alloc | apply Kd.V_drewN | apply Kd.V_drew)); exact Kd.V_mono HO2_0.1 (fun _ hk => ⟨hk.1.1.1, ⟨hk.2, ⟨(by simp [Value.ownBlock]), ⟨hk.1.1.2, hk.1.2⟩⟩⟩⟩)⟩, ⟨by (with_reducible repeat (first | refine blk_drewN ?_ _ | refine blk_drew ?_ | refine blk_alloc ?_ _)); exact BK168.1⟩, ⟨by (with_reducible repeat (first | refine blk_drewN ?_ _ | refine blk_drew ?_ | refine blk_alloc ?_ _)); exact BK169.1⟩, ⟨hq2_ HB.1 GE168.1 GE169.1⟩⟩
  case round =>
   clear H'; obtain ⟨x11_1, x13_1, x170000_1, x170001_1, u170000, rfl, HA, HK1, HO_10, HO_13, HO_170000, BK168, BK169, HB⟩ := hrel
   cases gk with
   | zero => exact absurd HA.1 (by simp [puzzle_Solve.l0])
   | succ k1 =>
    have H := HA.1; clear HA; simp only [puzzle_Solve.l0] at H
    by_cases c13 : x11_1 > 0
    ·rw [if_pos c13] at H; have c13b0 : decide (0 < x11_1) = true := decide_eq_true c13; clear c13; replace H := Option.bind_eq_some_iff.mp H; obtain ⟨t175, A140, H⟩ := H
     replace H : (puzzle_Solve.l1 k1 l1 t170 x11_1 x13_1 t175 (t175.length : Int) 0 a0_0 a0_1 a0_2 l0_3 l0_4 x170000_1 x170001_1) = some (r1, r2) := H
     have A14 := ak A140; clear A140; have H' := ak H; clear H; have hnb15 := NB168_169.1; have hnc15 := NB169_168.1; have hcz16_0 : wr.cell? ⟨gb168, 0, none⟩ = some (.int .i64 a0_0) := (blk_cell BK168.1 0).trans rfl; have hcz16_1 : wr.cell? ⟨gb168, 1, none⟩ = some (.int .i64 a0_1) := (blk_cell BK168.1 1).trans rfl; have hcz16_2 : wr.cell? ⟨gb168, 2, none⟩ = some (.int .i64 a0_2) := (blk_cell BK168.1 2).trans rfl; have hcz16_3 : wr.cell? ⟨gb168, 3, none⟩ = some (.slice A0_3 l0_3.length c0_3) := (blk_cell BK168.1 3).trans rfl; have hcz16_4 : wr.cell? ⟨gb168, 4, none⟩ = some (.slice A0_4 l0_4.length c0_4) := (blk_cell BK168.1 4).trans rfl; have hfz16_0 := blk_frozen BK168.1 0; have hfz16_1 := blk_frozen BK168.1 1; have hfz16_2 := blk_frozen BK168.1 2; have hfz16_3 := blk_frozen BK168.1 3; have hfz16_4 := blk_frozen BK168.1 4; have hcz17_0 : wr.cell? ⟨gb169, 0, none⟩ = some (u170000) := (blk_cell BK169.1 0).trans rfl; have hcz17_1 : wr.cell? ⟨gb169, 1, none⟩ = some (.int .i64 x170001_1) := (blk_cell BK169.1 1).trans rfl; have hfz17_0 := blk_frozen BK169.1 0; have hfz17_1 := blk_frozen BK169.1 1; obtain ⟨Ao18, co18, eo18⟩ := Kd.V_slice HO_170000.1; subst eo18
     go_wp2_with (first | ((with_reducible refine gate_callee (f := 29) rfl ?_); refine goesL_ (some 37) rfl rfl Try.func29 (by kernel_rfl) rfl #[.agg #[.int .i64 a0_0, .int .i64 a0_1, .int .i64 a0_2, .slice A0_3 l0_3.length c0_3, .slice A0_4 l0_4.length c0_4], .slice A1 l1.length c1, .agg #[.slice Ao18 x170000_1.length co18, .int .i64 x170001_1]] rfl (sm_) ?_; (with_reducible refine (layout_Shifts.calls a0_0 a0_1 a0_2 _ _ l0_3 _ _ l0_4 _ _ l1 _ _ x170000_1 x170001_1 t175 _ ?side1 ?side2 ?side3 ?side4 ?side5 ?side6 ?side7 ?side8 A14.1).mono ?_); (case side1 => exact (Kd.C_below HR0_3.1 HB.1)); (case side2 => exact HC0_3.1); (case side3 => exact (Kd.C_below HR0_4.1 HB.1)); (case side4 => exact HC0_4.1); (case side5 => exact (Kd.C_below HR1.1 HB.1)); (case side6 => exact HC1.1); (case side7 => exact (Kd.V_reads' HO_170000.1).2.2); (case side8 => exact (Kd.V_reads' HO_170000.1).2.1); rintro e w19 ⟨v176, rfl, ho0, hb⟩; refine ⟨_, rfl, ?_⟩; have n0_ := ak (Kd.R_below HO_10.1 hb); have n1_ := ak (Kd.R_elder' HO_13.1 (Kd.R_base ho0) hb); have n2_ := ak (Kd.V_elder' HO_170000.1 (Kd.R_base ho0) hb); have n3_ := ak (Kd.R_lower (Kd.R_new' (Kd.R_newM (M := fun k_ => (w.heap.size ≤ k_)) ho0 HB.1.size (fun k_ h_ => h_)) (Kd.R_lt HO_13.1)) HB.1.size); have n4_ := ak (blk_below BK168.1 hb); have n5_ := ak (blk_below BK169.1 hb); have n6_ := ak (below_step HB.1 hb); clear HO_10 HO_13 HO_170000 BK168 BK169 HB; have HO_10 := n0_; have HO_13 := n1_; have HO_170000 := n2_; have HO177 := n3_; have BK168 := n4_; have BK169 := n5_; have HB := n6_; clear n0_ n1_ n2_ n3_ n4_ n5_ n6_; (try clear hb); (try clear ho0); obtain ⟨Ao20, co20, eo20⟩ := Kd.R_slice HO177.1; subst eo20))
     go_loopg [13, 39] k1 (fun kq v13 v39 w' => ∃ (x13_2 : List (S51)) (x39_2 : Int) (x170000_2 : List Bool) (x170001_2 : Int) (u170000 : Value), v39 = .int .i64 x39_2 ∧ Aside0 (puzzle_Solve.l1 kq l1 t170 x11_1 x13_2 t175 (t175.length : Int) x39_2 a0_0 a0_1 a0_2 l0_3 l0_4 x170000_2 x170001_2 = some (r1, r2)) ∧ Aside0 (kq ≤ k1) ∧ Aside0 (Kd.R (Kd.int .i64) 3 w' w.heap.size (fun k_ => (w.heap.size ≤ k_)) v171 t170) ∧ Aside0 (Kd.R k51 51 w' w.heap.size (fun k_ => (w.heap.size ≤ k_) ∧ some k_ ≠ ((.slice Ao20 t175.length co20) : Value).ownBlock) v13 x13_2) ∧ Aside0 (Kd.R k51 51 w' w.heap.size (fun k_ => (w.heap.size ≤ k_) ∧ some k_ ≠ (v13 : Value).ownBlock) (.slice Ao20 t175.length co20) t175) ∧ Aside0 (Kd.V Kd.bool 4 w' w.heap.size (fun k_ => (P2_0_ k_ ∨ w.heap.size ≤ k_) ∧ some k_ ≠ (v171 : Value).ownBlock ∧ some k_ ≠ (v13 : Value).ownBlock ∧ some k_ ≠ ((.slice Ao20 t175.length co20) : Value).ownBlock ∧ k_ ≠ gb168 ∧ k_ ≠ gb169) u170000 x170000_2) ∧ Aside0 (w'.heap[gb168]? = some (.cells #[.int .i64 a0_0, .int .i64 a0_1, .int .i64 a0_2, (.slice A0_3 l0_3.length c0_3), (.slice A0_4 l0_4.length c0_4)] 24 (0, 0))) ∧ Aside0 (w'.heap[gb169]? = some (.cells #[u170000, .int .i64 x170001_2] 27 (0, 0))) ∧ Aside0 (Below w.heap.size w w'))
     case atStart => exact ⟨(x13_1), (0), (x170000_1), (x170001_1), (.slice Ao18 x170000_1.length co18), (rs_), H', ⟨Nat.le_refl _⟩, ⟨by (with_reducible repeat (first | apply Kd.R_alloc | apply Kd.R_drewN | apply Kd.R_drew)); exact HO_10.1⟩, ⟨by (with_reducible repeat (first | apply Kd.R_alloc | apply Kd.R_drewN | apply Kd.R_drew)); exact HO_13.1⟩, ⟨by (with_reducible repeat (first | apply Kd.R_alloc | apply Kd.R_drewN | apply Kd.R_drew)); exact Kd.R_mono HO177.1 (fun _ hk => ⟨hk.1.1, hk.2⟩)⟩, ⟨by (with_reducible repeat (first | apply Kd.V_alloc | apply Kd.V_drewN | apply Kd.V_drew)); exact Kd.V_mono HO_170000.1 (fun _ hk => ⟨hk.1.1, ⟨hk.1.2.1, ⟨hk.1.2.2.1, ⟨hk.2, ⟨hk.1.2.2.2.1, hk.1.2.2.2.2⟩⟩⟩⟩⟩)⟩, ⟨by (with_reducible repeat (first | refine blk_drewN ?_ _ | refine blk_drew ?_ | refine blk_alloc ?_ _)); exact BK168.1⟩, ⟨by (with_reducible repeat (first | refine blk_drewN ?_ _ | refine blk_drew ?_ | refine blk_alloc ?_ _)); exact BK169.1⟩, ⟨hq2_ HB.1 GE168.1 GE169.1⟩⟩
     case round =>
      clear H'; obtain ⟨x13_2, x39_2, x170000_2, x170001_2, u170000, rfl, HA, HK2, HO_10, HO_13, HO_37, HO_170000, BK168, BK169, HB⟩ := hrel
      cases gk with
      | zero => exact absurd HA.1 (by simp [puzzle_Solve.l1])
      | succ k2 =>
       have H := HA.1; clear HA; simp only [puzzle_Solve.l1] at H
       by_cases c21 : x39_2 < (t175.length : Int)
       ·rw [if_pos c21] at H; have c21b0 : decide (x39_2 < (t175.length : Int)) = true := decide_eq_true c21; clear c21
        by_cases c22 : 0 ≤ x39_2
        ·rw [if_pos c22] at H; have c22b0 : decide (0 ≤ x39_2) = true := decide_eq_true c22; clear c22
         by_cases c23 : x39_2 < (t175.length : Int)
         ·rw [if_pos c23] at H; have c23b0 : decide (x39_2 < (t175.length : Int)) = true := decide_eq_true c23; clear c23; replace H := Option.bind_eq_some_iff.mp H; obtain ⟨⟨t180, t183, t184⟩, A240, H⟩ := H
          replace H : ((layout_Rank.f t180 t183).bind fun t186 => (if 0 ≤ t186 then (if t186 < (t170.length : Int) then (if (rd t170 t186) = (wrap64 (x11_1 - 1)) then (if x13_2.length < 8796093022208 then (puzzle_Solve.l0 k2 l1 t170 (wrap64 (x11_1 - 1)) (x13_2 ++ [(⟨(rd_T51 t175 x39_2).f0, (rd_T51 t175 x39_2).f1⟩ : S51)]) a0_0 a0_1 a0_2 l0_3 l0_4 t180 t183) else (none)) else (puzzle_Solve.l1 k2 l1 t170 x11_1 x13_2 t175 (t175.length : Int) (wrap64 (x39_2 + 1)) a0_0 a0_1 a0_2 l0_3 l0_4 x170000_2 x170001_2)) else (none)) else (none))) = some (r1, r2) := H
          have A24 := ak A240; clear A240; replace H := Option.bind_eq_some_iff.mp H; obtain ⟨t186, A250, H⟩ := H
          replace H : (if 0 ≤ t186 then (if t186 < (t170.length : Int) then (if (rd t170 t186) = (wrap64 (x11_1 - 1)) then (if x13_2.length < 8796093022208 then (puzzle_Solve.l0 k2 l1 t170 (wrap64 (x11_1 - 1)) (x13_2 ++ [(⟨(rd_T51 t175 x39_2).f0, (rd_T51 t175 x39_2).f1⟩ : S51)]) a0_0 a0_1 a0_2 l0_3 l0_4 t180 t183) else (none)) else (puzzle_Solve.l1 k2 l1 t170 x11_1 x13_2 t175 (t175.length : Int) (wrap64 (x39_2 + 1)) a0_0 a0_1 a0_2 l0_3 l0_4 x170000_2 x170001_2)) else (none)) else (none)) = some (r1, r2) := H
          have A25 := ak A250; clear A250
          by_cases c26 : 0 ≤ t186
          ·rw [if_pos c26] at H; have c26b0 : decide (0 ≤ t186) = true := decide_eq_true c26; clear c26
           by_cases c27 : t186 < (t170.length : Int)
           ·rw [if_pos c27] at H; have c27b0 : decide (t186 < (t170.length : Int)) = true := decide_eq_true c27; clear c27; have HH_ := ak H; clear H; have H := HH_.1; clear HH_
            by_cases c28 : (rd t170 t186) = (wrap64 (x11_1 - 1))
            ·rw [if_pos c28] at H; have c28b0 : ((rd t170 t186) == (wrap64 (x11_1 - 1))) = true := beq_iff_eq.mpr c28; have c28b1 : ((rd t170 t186) != (wrap64 (x11_1 - 1))) = false := bne_eq_false_iff_eq.mpr c28; clear c28
             by_cases c29 : x13_2.length < 8796093022208
             ·rw [if_pos c29] at H; have LMc29 := ak c29; clear c29; obtain ⟨y188, hy188⟩ : ∃ y_ : List (S51), y_ = (x13_2 ++ [(⟨(rd_T51 t175 x39_2).f0, (rd_T51 t175 x39_2).f1⟩ : S51)]) := ⟨_, rfl⟩
              replace H : (puzzle_Solve.l0 k2 l1 t170 (wrap64 (x11_1 - 1)) y188 a0_0 a0_1 a0_2 l0_3 l0_4 t180 t183) = some (r1, r2) := by first | (rw [hy188]; with_reducible exact H) | (have H2_ := (Option.bind_some _ _).symm.trans H; rw [hy188]; with_reducible exact H2_) | (have H2_ := (Option.bind_some _ _).symm.trans H; with_reducible exact H2_) | with_reducible exact H | (rw [hy188]; exact H) | exact H
              have Ny188 := ak hy188; clear hy188; have H' := ak H; clear H; have p178 : 0 ≤ (x39_2 : Int) := of_decide_eq_true (by assumption); have q178 : x39_2 < (t175.length : Int) := of_decide_eq_true (by assumption); obtain ⟨ad178, e178, hx178_0, hx178_1⟩ := at_T51 (Kd.R_reads' HO_37.1).2.2 x39_2 p178 q178
              cases e178
              replace p178 := eq_true p178; replace q178 := eq_true q178
              try go_wp2_with (first | ((with_reducible refine gate_dst (N := 15) rfl ?_); refine box_event ?hg (N := 15) ?hd (cs := #[.int .i64 0, .int .i64 0]) (t := 51) ?hr ?_; (case hd => rfl); (case hg => rfl); (case hr => first | (go_simp; done) | (go_simp; rfl)); intro gb179 hg w30 hbox hb; have n0_ := ak (Kd.R_below (rq_ HO_10.1) hb); have n1_ := ak (Kd.R_below (Kd.R_elderB (rq_ HO_13.1) gb179 (Nat.le_of_eq hg.symm)) hb); have n2_ := ak (Kd.R_below (Kd.R_elderB (rq_ HO_37.1) gb179 (Nat.le_of_eq hg.symm)) hb); have n3_ := ak (Kd.V_below (Kd.V_elderB (vq_ HO_170000.1) gb179 (Nat.le_of_eq hg.symm)) hb); have n4_ := ak (blk_below (g := gb168) (o := .cells #[.int .i64 a0_0, .int .i64 a0_1, .int .i64 a0_2, .slice A0_3 l0_3.length c0_3, .slice A0_4 l0_4.length c0_4] 24 (0, 0)) (bq_ BK168.1) hb); have n5_ := ak (blk_below (g := gb169) (o := .cells #[u170000, .int .i64 x170001_2] 27 (0, 0)) (bq_ BK169.1) hb); have n6_ := ak (below_step (hq2_ HB.1 GE168.1 GE169.1) hb); have n7_ := ak (hbox); have n8_ := ak ((by rw [hg]; exact (below_size (hq2_ HB.1 GE168.1 GE169.1)) : w.heap.size ≤ gb179)); have n9_ := ak ((by rw [hg]; exact (below_size (hq2_ HB.1 GE168.1 GE169.1)) : w.heap.size ≤ gb179)); have n10_ := ak ((by rw [hg]; exact Nat.ne_of_lt (blk_lt (g := gb168) (o := .cells #[.int .i64 a0_0, .int .i64 a0_1, .int .i64 a0_2, .slice A0_3 l0_3.length c0_3, .slice A0_4 l0_4.length c0_4] 24 (0, 0)) (bq_ BK168.1)) : gb168 ≠ gb179)); have n11_ := ak ((by rw [hg]; exact Nat.ne_of_gt (blk_lt (g := gb168) (o := .cells #[.int .i64 a0_0, .int .i64 a0_1, .int .i64 a0_2, .slice A0_3 l0_3.length c0_3, .slice A0_4 l0_4.length c0_4] 24 (0, 0)) (bq_ BK168.1)) : gb179 ≠ gb168)); have n12_ := ak ((by rw [hg]; exact Nat.ne_of_lt (blk_lt (g := gb169) (o := .cells #[u170000, .int .i64 x170001_2] 27 (0, 0)) (bq_ BK169.1)) : gb169 ≠ gb179)); have n13_ := ak ((by rw [hg]; exact Nat.ne_of_gt (blk_lt (g := gb169) (o := .cells #[u170000, .int .i64 x170001_2] 27 (0, 0)) (bq_ BK169.1)) : gb179 ≠ gb169)); clear HO_10; clear HO_13; clear HO_37; clear HO_170000; clear BK168; clear BK169; clear HB; have HO_10 := n0_; have HO_13 := n1_; have HO_37 := n2_; have HO_170000 := n3_; have BK168 := n4_; have BK169 := n5_; have HB := n6_; have BK179 := n7_; have GW179 := n8_; have GE179 := n9_; have NB168_179 := n10_; have NB179_168 := n11_; have NB169_179 := n12_; have NB179_169 := n13_; clear n0_ n1_ n2_ n3_ n4_ n5_ n6_ n7_ n8_ n9_ n10_ n11_ n12_ n13_; clear hb hbox hg; have hnb31 := NB179_168.1; have hnc31 := NB168_179.1; have hnb32 := NB179_169.1; have hnc32 := NB169_179.1; have hcz33_0 : w30.cell? ⟨gb179, 0, none⟩ = some (.int .i64 0) := (blk_cell BK179.1 0).trans rfl; have hcz33_1 : w30.cell? ⟨gb179, 1, none⟩ = some (.int .i64 0) := (blk_cell BK179.1 1).trans rfl; have hfz33_0 := blk_frozen BK179.1 0; have hfz33_1 := blk_frozen BK179.1 1; have hnb34 := NB169_168.1; have hnc34 := NB168_169.1; have hcz35_0 : w30.cell? ⟨gb169, 0, none⟩ = some (u170000) := (blk_cell BK169.1 0).trans rfl; have hcz35_1 : w30.cell? ⟨gb169, 1, none⟩ = some (.int .i64 x170001_2) := (blk_cell BK169.1 1).trans rfl; have hfz35_0 := blk_frozen BK169.1 0; have hfz35_1 := blk_frozen BK169.1 1; obtain ⟨Ao36, co36, eo36⟩ := Kd.V_slice HO_170000.1; subst eo36) | ((with_reducible refine gate_callee (f := 30) rfl ?_); refine goesL_ (some 46) rfl rfl Try.func30 (by kernel_rfl) rfl #[.agg #[.slice Ao36 x170000_2.length co36, .int .i64 x170001_2], .agg #[.int .i64 ((rd_T51 t175 x39_2).f0), .int .i64 ((rd_T51 t175 x39_2).f1)]] rfl (sm_) ?_; (with_reducible refine (layout_Do.calls _ _ x170000_2 x170001_2 ((rd_T51 t175 x39_2).f0) ((rd_T51 t175 x39_2).f1) t180 t183 t184 _ ?side1 ?side2 A24.1).mono ?_); (case side1 => refine (Kd.V_reads' (e := 4) (base := w.heap.size) (ok := fun k_ => (((P2_0_ k_ ∨ w.heap.size ≤ k_) ∧ (some k_ ≠ (v171 : Value).ownBlock ∧ (some k_ ≠ (u13 : Value).ownBlock ∧ (some k_ ≠ (.slice (some ad178) t175.length co20 : Value).ownBlock ∧ (k_ ≠ gb168 ∧ k_ ≠ gb169))))) ∧ k_ ≠ gb179)) (n := x170000_2.length) (c := co36) ?_).2.2; exact (by (with_reducible repeat (first | apply Kd.V_alloc | apply Kd.V_drewN | apply Kd.V_drew)); exact (Kd.V_mono (Kd.V_far (p := ⟨gb179, 1, none⟩) (Kd.V_far (p := ⟨gb179, 0, none⟩) (Kd.V_mono HO_170000.1 (fun k_ hk => (⟨hk, hk.2⟩ : _ ∧ k_ ≠ gb179))) (fun _ hk => hk.2) (.int .i64 ((rd_T51 t175 x39_2).f0))) (fun _ hk => hk.2) (.int .i64 ((rd_T51 t175 x39_2).f1))) (fun _ h_ => h_.1)))); (case side2 => exact (Kd.V_reads' HO_170000.1).2.1); rintro e w37 ⟨v181, rfl, ho0, hb⟩; refine ⟨_, rfl, ?_⟩; have n0_ := ak (Kd.R_below (by (with_reducible repeat (first | apply Kd.R_alloc | apply Kd.R_drewN | apply Kd.R_drew)); exact (Kd.R_mono (Kd.R_far (p := ⟨gb179, 1, none⟩) (Kd.R_far (p := ⟨gb179, 0, none⟩) (Kd.R_types HO_10.1 BK179.1 (by decide)) (fun _ hk => hk.2) (.int .i64 ((rd_T51 t175 x39_2).f0))) (fun _ hk => hk.2) (.int .i64 ((rd_T51 t175 x39_2).f1))) (fun _ h_ => h_.1))) hb); have n1_ := ak (Kd.R_below (by (with_reducible repeat (first | apply Kd.R_alloc | apply Kd.R_drewN | apply Kd.R_drew)); exact (Kd.R_mono (Kd.R_far (p := ⟨gb179, 1, none⟩) (Kd.R_far (p := ⟨gb179, 0, none⟩) (Kd.R_mono HO_13.1 (fun k_ hk => (⟨hk, hk.2⟩ : _ ∧ k_ ≠ gb179))) (fun _ hk => hk.2) (.int .i64 ((rd_T51 t175 x39_2).f0))) (fun _ hk => hk.2) (.int .i64 ((rd_T51 t175 x39_2).f1))) (fun _ h_ => h_.1))) hb); have n2_ := ak (Kd.R_below (by (with_reducible repeat (first | apply Kd.R_alloc | apply Kd.R_drewN | apply Kd.R_drew)); exact (Kd.R_mono (Kd.R_far (p := ⟨gb179, 1, none⟩) (Kd.R_far (p := ⟨gb179, 0, none⟩) (Kd.R_mono HO_37.1 (fun k_ hk => (⟨hk, hk.2⟩ : _ ∧ k_ ≠ gb179))) (fun _ hk => hk.2) (.int .i64 ((rd_T51 t175 x39_2).f0))) (fun _ hk => hk.2) (.int .i64 ((rd_T51 t175 x39_2).f1))) (fun _ h_ => h_.1))) hb); have n3_ := ak (Kd.V_elder' (by (with_reducible repeat (first | apply Kd.V_alloc | apply Kd.V_drewN | apply Kd.V_drew)); exact (Kd.V_mono (Kd.V_far (p := ⟨gb179, 1, none⟩) (Kd.V_far (p := ⟨gb179, 0, none⟩) (Kd.V_mono HO_170000.1 (fun k_ hk => (⟨hk, hk.2⟩ : _ ∧ k_ ≠ gb179))) (fun _ hk => hk.2) (.int .i64 ((rd_T51 t175 x39_2).f0))) (fun _ hk => hk.2) (.int .i64 ((rd_T51 t175 x39_2).f1))) (fun _ h_ => h_.1))) (Kd.R_base ho0) hb); have n4_ := ak (Kd.R_lower (Kd.R_newM (M := fun k_ => (w.heap.size ≤ k_)) ho0 (below_size (hq3_ HB.1 GE168.1 GE169.1 GE179.1)) (fun k_ h_ => h_)) (below_size (hq3_ HB.1 GE168.1 GE169.1 GE179.1))); have n5_ := ak (blk_below (g := gb168) (o := .cells #[.int .i64 a0_0, .int .i64 a0_1, .int .i64 a0_2, .slice A0_3 l0_3.length c0_3, .slice A0_4 l0_4.length c0_4] 24 (0, 0)) (by (with_reducible repeat (first | refine blk_drewN ?_ _ | refine blk_drew ?_ | refine blk_alloc ?_ _)); refine blk_far ?_ NB168_179.1 _; (with_reducible repeat (first | refine blk_drewN ?_ _ | refine blk_drew ?_ | refine blk_alloc ?_ _)); refine blk_far ?_ NB168_179.1 _; (with_reducible repeat (first | refine blk_drewN ?_ _ | refine blk_drew ?_ | refine blk_alloc ?_ _)); exact BK168.1) hb); have n6_ := ak (blk_below (g := gb169) (o := .cells #[.slice Ao36 x170000_2.length co36, .int .i64 x170001_2] 27 (0, 0)) (by (with_reducible repeat (first | refine blk_drewN ?_ _ | refine blk_drew ?_ | refine blk_alloc ?_ _)); refine blk_far ?_ NB169_179.1 _; (with_reducible repeat (first | refine blk_drewN ?_ _ | refine blk_drew ?_ | refine blk_alloc ?_ _)); refine blk_far ?_ NB169_179.1 _; (with_reducible repeat (first | refine blk_drewN ?_ _ | refine blk_drew ?_ | refine blk_alloc ?_ _)); exact BK169.1) hb); have n7_ := ak (blk_below (g := gb179) (o := .cells #[.int .i64 ((rd_T51 t175 x39_2).f0), .int .i64 ((rd_T51 t175 x39_2).f1)] 51 (0, 0)) (by (with_reducible repeat (first | refine blk_drewN ?_ _ | refine blk_drew ?_ | refine blk_alloc ?_ _)); refine blk_put (cs := #[.int .i64 ((rd_T51 t175 x39_2).f0), .int .i64 0]) ?_ 1 _ rfl; (with_reducible repeat (first | refine blk_drewN ?_ _ | refine blk_drew ?_ | refine blk_alloc ?_ _)); refine blk_put (cs := #[.int .i64 0, .int .i64 0]) ?_ 0 _ rfl; (with_reducible repeat (first | refine blk_drewN ?_ _ | refine blk_drew ?_ | refine blk_alloc ?_ _)); exact BK179.1) hb); have n8_ := ak (below_step (hq3_ HB.1 GE168.1 GE169.1 GE179.1) hb); clear HO_10; clear HO_13; clear HO_37; clear HO_170000; clear BK168; clear BK169; clear BK179; clear HB; have HO_10 := n0_; have HO_13 := n1_; have HO_37 := n2_; have HO_170000 := n3_; have HO182 := n4_; have BK168 := n5_; have BK169 := n6_; have BK179 := n7_; have HB := n8_; clear n0_ n1_ n2_ n3_ n4_ n5_ n6_ n7_ n8_; (try clear hb); (try clear hb2); (try clear hk); (try clear hi); (try clear ho0)) | ((with_reducible refine gate_dst (N := 16) rfl ?_); refine box_event ?hg (N := 16) ?hd (cs := #[.slice none 0 0, .int .i64 0]) (t := 27) ?hr ?_; (case hd => rfl); (case hg => rfl); (case hr => first | (go_simp; done) | (go_simp; rfl)); intro gb185 hg w38 hbox hb; have n0_ := ak (Kd.R_below (rq_ HO_10.1) hb); have n1_ := ak (Kd.R_below (rq_ HO_13.1) hb); have n2_ := ak (Kd.R_below (rq_ HO_37.1) hb); have n3_ := ak (Kd.V_below (Kd.V_elderB (vq_ HO_170000.1) gb185 (Nat.le_of_eq hg.symm)) hb); have n4_ := ak (Kd.R_below (rq_ HO182.1) hb); have n5_ := ak (blk_below (g := gb168) (o := .cells #[.int .i64 a0_0, .int .i64 a0_1, .int .i64 a0_2, .slice A0_3 l0_3.length c0_3, .slice A0_4 l0_4.length c0_4] 24 (0, 0)) (bq_ BK168.1) hb); have n6_ := ak (blk_below (g := gb169) (o := .cells #[.slice Ao36 x170000_2.length co36, .int .i64 x170001_2] 27 (0, 0)) (bq_ BK169.1) hb); have n7_ := ak (blk_below (g := gb179) (o := .cells #[.int .i64 ((rd_T51 t175 x39_2).f0), .int .i64 ((rd_T51 t175 x39_2).f1)] 51 (0, 0)) (bq_ BK179.1) hb); have n8_ := ak (below_step (hq3_ HB.1 GE168.1 GE169.1 GE179.1) hb); have n9_ := ak (hbox); have n10_ := ak ((by rw [hg]; exact (below_size (hq3_ HB.1 GE168.1 GE169.1 GE179.1)) : w.heap.size ≤ gb185)); have n11_ := ak ((by rw [hg]; exact (below_size (hq3_ HB.1 GE168.1 GE169.1 GE179.1)) : w.heap.size ≤ gb185)); have n12_ := ak ((by rw [hg]; exact Nat.ne_of_lt (blk_lt (g := gb168) (o := .cells #[.int .i64 a0_0, .int .i64 a0_1, .int .i64 a0_2, .slice A0_3 l0_3.length c0_3, .slice A0_4 l0_4.length c0_4] 24 (0, 0)) (bq_ BK168.1)) : gb168 ≠ gb185)); have n13_ := ak ((by rw [hg]; exact Nat.ne_of_gt (blk_lt (g := gb168) (o := .cells #[.int .i64 a0_0, .int .i64 a0_1, .int .i64 a0_2, .slice A0_3 l0_3.length c0_3, .slice A0_4 l0_4.length c0_4] 24 (0, 0)) (bq_ BK168.1)) : gb185 ≠ gb168)); have n14_ := ak ((by rw [hg]; exact Nat.ne_of_lt (blk_lt (g := gb169) (o := .cells #[.slice Ao36 x170000_2.length co36, .int .i64 x170001_2] 27 (0, 0)) (bq_ BK169.1)) : gb169 ≠ gb185)); have n15_ := ak ((by rw [hg]; exact Nat.ne_of_gt (blk_lt (g := gb169) (o := .cells #[.slice Ao36 x170000_2.length co36, .int .i64 x170001_2] 27 (0, 0)) (bq_ BK169.1)) : gb185 ≠ gb169)); have n16_ := ak ((by rw [hg]; exact Nat.ne_of_lt (blk_lt (g := gb179) (o := .cells #[.int .i64 ((rd_T51 t175 x39_2).f0), .int .i64 ((rd_T51 t175 x39_2).f1)] 51 (0, 0)) (bq_ BK179.1)) : gb179 ≠ gb185)); have n17_ := ak ((by rw [hg]; exact Nat.ne_of_gt (blk_lt (g := gb179) (o := .cells #[.int .i64 ((rd_T51 t175 x39_2).f0), .int .i64 ((rd_T51 t175 x39_2).f1)] 51 (0, 0)) (bq_ BK179.1)) : gb185 ≠ gb179)); clear HO_10; clear HO_13; clear HO_37; clear HO_170000; clear HO182; clear BK168; clear BK169; clear BK179; clear HB; have HO_10 := n0_; have HO_13 := n1_; have HO_37 := n2_; have HO_170000 := n3_; have HO182 := n4_; have BK168 := n5_; have BK169 := n6_; have BK179 := n7_; have HB := n8_; have BK185 := n9_; have GW185 := n10_; have GE185 := n11_; have NB168_185 := n12_; have NB185_168 := n13_; have NB169_185 := n14_; have NB185_169 := n15_; have NB179_185 := n16_; have NB185_179 := n17_; clear n0_ n1_ n2_ n3_ n4_ n5_ n6_ n7_ n8_ n9_ n10_ n11_ n12_ n13_ n14_ n15_ n16_ n17_; clear hb hbox hg; obtain ⟨Ao39, co39, eo39⟩ := Kd.R_slice HO182.1; subst eo39; have hnb40 := NB185_168.1; have hnc40 := NB168_185.1; have hnb41 := NB185_169.1; have hnc41 := NB169_185.1; have hnb42 := NB185_179.1; have hnc42 := NB179_185.1; have hcz43_0 : w38.cell? ⟨gb185, 0, none⟩ = some (.slice none 0 0) := (blk_cell BK185.1 0).trans rfl; have hcz43_1 : w38.cell? ⟨gb185, 1, none⟩ = some (.int .i64 0) := (blk_cell BK185.1 1).trans rfl; have hfz43_0 := blk_frozen BK185.1 0; have hfz43_1 := blk_frozen BK185.1 1) | ((with_reducible refine gate_callee (f := 31) rfl ?_); refine goesL_ (some 51) rfl rfl Try.func31 (by kernel_rfl) rfl #[.agg #[.slice Ao39 t180.length co39, .int .i64 t183]] rfl (sm_) ?_; (with_reducible refine (layout_Rank.calls _ _ t180 t183 t186 _ ?side1 ?side2 A25.1).mono ?_); (case side1 => refine (Kd.R_reads' (e := 4) (base := w.heap.size) (ok := fun k_ => ((w.heap.size ≤ k_) ∧ True)) (n := t180.length) (c := co39) ?_).2.2; exact (by (with_reducible repeat (first | apply Kd.R_alloc | apply Kd.R_drewN | apply Kd.R_drew)); exact (Kd.R_mono (Kd.R_far (p := ⟨gb185, 1, none⟩) (Kd.R_far (p := ⟨gb185, 0, none⟩) (Kd.R_types HO182.1 BK185.1 (by decide)) (fun _ hk => hk.2) (.slice Ao39 t180.length co39)) (fun _ hk => hk.2) (.int .i64 t183)) (fun _ h_ => h_.1)))); (case side2 => exact (Kd.R_reads' HO182.1).2.1); rintro e w44 ⟨rfl, hb⟩; refine ⟨_, rfl, ?_⟩; have n0_ := ak (Kd.R_below (by (with_reducible repeat (first | apply Kd.R_alloc | apply Kd.R_drewN | apply Kd.R_drew)); exact (Kd.R_mono (Kd.R_far (p := ⟨gb185, 1, none⟩) (Kd.R_far (p := ⟨gb185, 0, none⟩) (Kd.R_types HO_10.1 BK185.1 (by decide)) (fun _ hk => hk.2) (.slice Ao39 t180.length co39)) (fun _ hk => hk.2) (.int .i64 t183)) (fun _ h_ => h_.1))) hb); have n1_ := ak (Kd.R_below (by (with_reducible repeat (first | apply Kd.R_alloc | apply Kd.R_drewN | apply Kd.R_drew)); exact (Kd.R_mono (Kd.R_far (p := ⟨gb185, 1, none⟩) (Kd.R_far (p := ⟨gb185, 0, none⟩) (Kd.R_types HO_13.1 BK185.1 (by decide)) (fun _ hk => hk.2) (.slice Ao39 t180.length co39)) (fun _ hk => hk.2) (.int .i64 t183)) (fun _ h_ => h_.1))) hb); have n2_ := ak (Kd.R_below (by (with_reducible repeat (first | apply Kd.R_alloc | apply Kd.R_drewN | apply Kd.R_drew)); exact (Kd.R_mono (Kd.R_far (p := ⟨gb185, 1, none⟩) (Kd.R_far (p := ⟨gb185, 0, none⟩) (Kd.R_types HO_37.1 BK185.1 (by decide)) (fun _ hk => hk.2) (.slice Ao39 t180.length co39)) (fun _ hk => hk.2) (.int .i64 t183)) (fun _ h_ => h_.1))) hb); have n3_ := ak (Kd.V_below (by (with_reducible repeat (first | apply Kd.V_alloc | apply Kd.V_drewN | apply Kd.V_drew)); exact (Kd.V_mono (Kd.V_far (p := ⟨gb185, 1, none⟩) (Kd.V_far (p := ⟨gb185, 0, none⟩) (Kd.V_mono HO_170000.1 (fun k_ hk => (⟨hk, hk.2⟩ : _ ∧ k_ ≠ gb185))) (fun _ hk => hk.2) (.slice Ao39 t180.length co39)) (fun _ hk => hk.2) (.int .i64 t183)) (fun _ h_ => h_.1))) hb); have n4_ := ak (Kd.R_below (by (with_reducible repeat (first | apply Kd.R_alloc | apply Kd.R_drewN | apply Kd.R_drew)); exact (Kd.R_mono (Kd.R_far (p := ⟨gb185, 1, none⟩) (Kd.R_far (p := ⟨gb185, 0, none⟩) (Kd.R_types HO182.1 BK185.1 (by decide)) (fun _ hk => hk.2) (.slice Ao39 t180.length co39)) (fun _ hk => hk.2) (.int .i64 t183)) (fun _ h_ => h_.1))) hb); have n5_ := ak (blk_below (g := gb168) (o := .cells #[.int .i64 a0_0, .int .i64 a0_1, .int .i64 a0_2, .slice A0_3 l0_3.length c0_3, .slice A0_4 l0_4.length c0_4] 24 (0, 0)) (by (with_reducible repeat (first | refine blk_drewN ?_ _ | refine blk_drew ?_ | refine blk_alloc ?_ _)); refine blk_far ?_ NB168_185.1 _; (with_reducible repeat (first | refine blk_drewN ?_ _ | refine blk_drew ?_ | refine blk_alloc ?_ _)); refine blk_far ?_ NB168_185.1 _; (with_reducible repeat (first | refine blk_drewN ?_ _ | refine blk_drew ?_ | refine blk_alloc ?_ _)); exact BK168.1) hb); have n6_ := ak (blk_below (g := gb169) (o := .cells #[.slice Ao36 x170000_2.length co36, .int .i64 x170001_2] 27 (0, 0)) (by (with_reducible repeat (first | refine blk_drewN ?_ _ | refine blk_drew ?_ | refine blk_alloc ?_ _)); refine blk_far ?_ NB169_185.1 _; (with_reducible repeat (first | refine blk_drewN ?_ _ | refine blk_drew ?_ | refine blk_alloc ?_ _)); refine blk_far ?_ NB169_185.1 _; (with_reducible repeat (first | refine blk_drewN ?_ _ | refine blk_drew ?_ | refine blk_alloc ?_ _)); exact BK169.1) hb); have n7_ := ak (blk_below (g := gb179) (o := .cells #[.int .i64 ((rd_T51 t175 x39_2).f0), .int .i64 ((rd_T51 t175 x39_2).f1)] 51 (0, 0)) (by (with_reducible repeat (first | refine blk_drewN ?_ _ | refine blk_drew ?_ | refine blk_alloc ?_ _)); refine blk_far ?_ NB179_185.1 _; (with_reducible repeat (first | refine blk_drewN ?_ _ | refine blk_drew ?_ | refine blk_alloc ?_ _)); refine blk_far ?_ NB179_185.1 _; (with_reducible repeat (first | refine blk_drewN ?_ _ | refine blk_drew ?_ | refine blk_alloc ?_ _)); exact BK179.1) hb); have n8_ := ak (blk_below (g := gb185) (o := .cells #[.slice Ao39 t180.length co39, .int .i64 t183] 27 (0, 0)) (by (with_reducible repeat (first | refine blk_drewN ?_ _ | refine blk_drew ?_ | refine blk_alloc ?_ _)); refine blk_put (cs := #[.slice Ao39 t180.length co39, .int .i64 0]) ?_ 1 _ rfl; (with_reducible repeat (first | refine blk_drewN ?_ _ | refine blk_drew ?_ | refine blk_alloc ?_ _)); refine blk_put (cs := #[.slice none 0 0, .int .i64 0]) ?_ 0 _ rfl; (with_reducible repeat (first | refine blk_drewN ?_ _ | refine blk_drew ?_ | refine blk_alloc ?_ _)); exact BK185.1) hb); have n9_ := ak (below_step (hq4_ HB.1 GE168.1 GE169.1 GE179.1 GE185.1) hb); clear HO_10; clear HO_13; clear HO_37; clear HO_170000; clear HO182; clear BK168; clear BK169; clear BK179; clear BK185; clear HB; have HO_10 := n0_; have HO_13 := n1_; have HO_37 := n2_; have HO_170000 := n3_; have HO182 := n4_; have BK168 := n5_; have BK169 := n6_; have BK179 := n7_; have BK185 := n8_; have HB := n9_; clear n0_ n1_ n2_ n3_ n4_ n5_ n6_ n7_ n8_ n9_; (try clear hb); (try clear hb2); (try clear hk); (try clear hi); obtain ⟨Ao45, co45, eo45⟩ := Kd.R_slice HO_10.1; subst eo45; have p187 : 0 ≤ (t186 : Int) := of_decide_eq_true (by assumption); have q187 : t186 < (t170.length : Int) := of_decide_eq_true (by assumption); obtain ⟨ad187, e187, hx187_0⟩ := Kd.at_int (Kd.R_reads' HO_10.1).2.2 t186 p187 q187; cases e187; replace p187 := eq_true p187; replace q187 := eq_true q187))
              have n0_ := ak (Kd.R_drew HO_10.1); have n1_ := ak (Kd.R_drew HO_13.1); have n2_ := ak (Kd.R_drew HO_37.1); have n3_ := ak (Kd.V_drew HO_170000.1); have n4_ := ak (Kd.R_drew HO182.1); have n5_ := ak (blk_drew BK168.1); have n6_ := ak (blk_drew BK169.1); have n7_ := ak (blk_drew BK179.1); have n8_ := ak (blk_drew BK185.1); have n9_ := ak (below_drew1 HB.1); clear HO_10; clear HO_13; clear HO_37; clear HO_170000; clear HO182; clear BK168; clear BK169; clear BK179; clear BK185; clear HB; have HO_10 := n0_; have HO_13 := n1_; have HO_37 := n2_; have HO_170000 := n3_; have HO182 := n4_; have BK168 := n5_; have BK169 := n6_; have BK179 := n7_; have BK185 := n8_; have HB := n9_; clear n0_ n1_ n2_ n3_ n4_ n5_ n6_ n7_ n8_ n9_; refine start_ (n := 7) (S := fun w' => w'.cell? ⟨gb179, 0, none⟩ = some (.int .i64 ((rd_T51 t175 x39_2).f0)) ∧ w'.cell? ⟨gb179, 1, none⟩ = some (.int .i64 ((rd_T51 t175 x39_2).f1)) ∧ w'.cell? ⟨gb185, 0, none⟩ = some (.slice Ao39 t180.length co39) ∧ w'.cell? ⟨gb185, 1, none⟩ = some (.int .i64 t183)) (ds := []) (bl 7 0) (by kernel_rfl) rfl rfl ⟨(blk_cell BK179.1 0).trans rfl, (blk_cell BK179.1 1).trans rfl, (blk_cell BK185.1 0).trans rfl, (blk_cell BK185.1 1).trans rfl⟩ (fun hHeld => ?_); generalize w44.drew = w46 at HO_10 HO_13 HO_37 HO_170000 HO182 BK168 BK169 BK179 BK185 HB hHeld ⊢; refine pure_ (i := 0) (N := some 57) (v := ?_) (a' := ?_) (bl 7 1) rfl rfl (by kernel_rfl) (fun _ _ _ h => h) (Or.inl ⟨by rfl, ?_⟩) ?_ ?_; rotate_left; (intro w'; go_simp; with_reducible rfl); rotate_left; (simp only [Act.put, List.setIfInBounds_toArray, List.set_cons_zero, List.set_cons_succ, i64_w, i32_w]; rfl); refine take_ (i := 1) (N := some 58) (v := ?_) (a' := ?_) (bl 7 3) rfl rfl (by kernel_rfl) (fun _ _ _ h => h) (Or.inl ⟨by rfl, ?_⟩) hHeld ?_ ?_; rotate_left; (rintro w' ⟨s0, s1, s2, s3⟩; go_simp; with_reducible rfl); rotate_left; (simp only [Act.put, List.setIfInBounds_toArray, List.set_cons_zero, List.set_cons_succ, i64_w, i32_w]; rfl); refine take_ (i := 4) (N := some 61) (v := ?_) (a' := ?_) (bl 7 19) rfl rfl (by kernel_rfl) (fun _ _ _ h => h) (Or.inl ⟨by rfl, ?_⟩) hHeld ?_ ?_; rotate_left; (rintro w' ⟨s0, s1, s2, s3⟩; go_simp; with_reducible rfl); rotate_left; (simp only [Act.put, List.setIfInBounds_toArray, List.set_cons_zero, List.set_cons_succ, i64_w, i32_w]; rfl); refine one_ (i := 2) (N := some 59) (bl 7 23) rfl rfl (by kernel_rfl) (by decide) (fun K hK => ?_); refine value_ (w1 := ?_) (v := ?_) (by rfl) rfl ?_ ?_
              rotate_left 2
              ·go_simp
               constructor
               ·rfl
               ·rfl
              refine hK.out _ _ ⟨(blk_cell (blk_alloc BK179.1 _) 0).trans rfl, (blk_cell (blk_alloc BK179.1 _) 1).trans rfl, (blk_cell (blk_alloc BK185.1 _) 0).trans rfl, (blk_cell (blk_alloc BK185.1 _) 1).trans rfl⟩ (fun hHeld => ?_); clear hK K; refine norm_ (a' := ?_) ?_ ?_; rotate_left
              ·show Act.put _ (some 59) _ = _
               simp only [Act.put, List.setIfInBounds_toArray, List.set_cons_zero, List.set_cons_succ, i64_w, i32_w]; rfl
              refine one_ (i := 3) (N := some 60) (bl 7 31) rfl rfl (by kernel_rfl) (by decide) (fun K hK => ?_); refine Kd.R_append_step k51 (w0 := w) w.heap.size (by rfl) (.tmp 57) (.tmp 59) 35 51 (.agg #[(.int .i64 0), (.int .i64 0)]) 16 rfl Try.underlying35 info51 rfl (by decide) (by omega) u13 x13_2 (⟨(rd_T51 t175 x39_2).f0, (rd_T51 t175 x39_2).f1⟩ : S51) [.int .i64 ((rd_T51 t175 x39_2).f0), .int .i64 ((rd_T51 t175 x39_2).f1)] (fun k_ => (w.heap.size ≤ k_) ∧ some k_ ≠ (.slice (some ad178) t175.length co20 : Value).ownBlock ∧ k_ ≠ gb179) (fun _ => False) rfl rfl ?aP (fun _ hk => hk.elim) ?aF ?aO ?aB ?aS ?aL ?_; (case aP => exact k51_mkM _ _ _ (⟨(rd_T51 t175 x39_2).f0, (rd_T51 t175 x39_2).f1⟩ : S51)); (case aB => exact HB.1); (case aF => exact (fun k_ hk => ⟨(Nat.le_trans HB.1.size hk), Kd.fresh' (Kd.R_lt HO_37.1) k_ hk, Kd.freshB BK179.1 k_ hk⟩)); (case aO => exact (by (with_reducible repeat (first | apply Kd.R_alloc | apply Kd.R_drewN | apply Kd.R_drew)); exact Kd.R_mono HO_13.1 (fun _ hk => ⟨hk.1.1, ⟨hk.1.2, hk.2⟩⟩))); (case aS => exact HB.1.size); (case aL => have := LMc29.1; omega); intro v189 w47 ho hb hg hat; rw [← Ny188.1] at ho; have n0_ := ak (Kd.R_over' HO_10.1 (Kd.R_typed HO_13.1) (by decide) hg); have n1_ := ak (Kd.R_after (ok := (fun k_ => (w.heap.size ≤ k_) ∧ k_ ≠ gb179)) (by (with_reducible repeat (first | apply Kd.R_alloc | apply Kd.R_drewN | apply Kd.R_drew)); exact Kd.R_mono HO_37.1 (fun _ hk => ⟨⟨hk.1.1, hk.2⟩, hk.1.2⟩)) hg hat); have n2_ := ak (Kd.V_afterv (ok := (fun k_ => (P2_0_ k_ ∨ w.heap.size ≤ k_) ∧ some k_ ≠ (.slice (some ad187) t170.length co45 : Value).ownBlock ∧ some k_ ≠ (.slice (some ad178) t175.length co20 : Value).ownBlock ∧ some k_ ≠ (.slice Ao39 t180.length co39 : Value).ownBlock ∧ k_ ≠ gb168 ∧ k_ ≠ gb169 ∧ k_ ≠ gb179 ∧ k_ ≠ gb185)) (by (with_reducible repeat (first | apply Kd.V_alloc | apply Kd.V_drewN | apply Kd.V_drew)); exact Kd.V_mono HO_170000.1 (fun _ hk => ⟨⟨hk.1.1.1.1, ⟨hk.1.1.1.2.1, ⟨hk.1.1.1.2.2.2.1, ⟨hk.1.2, ⟨hk.1.1.1.2.2.2.2.1, ⟨hk.1.1.1.2.2.2.2.2, ⟨hk.1.1.2, hk.2⟩⟩⟩⟩⟩⟩⟩, hk.1.1.1.2.2.1⟩)) hg hat); have n3_ := ak (blk_grown BK168.1 hg (Kd.R_ne HO_13.1 BK168.1 (by decide))); have n4_ := ak (blk_grown BK169.1 hg (Kd.R_ne HO_13.1 BK169.1 (by decide))); have n5_ := ak (blk_grown BK179.1 hg (Kd.R_away HO_13.1 (fun _ hk => hk.2))); have n6_ := ak (Kd.R_over' HO182.1 (Kd.R_typed HO_13.1) (by decide) hg); have n7_ := ak (blk_grown BK185.1 hg (Kd.R_ne HO_13.1 BK185.1 (by decide))); have n8_ := ak (hb); have n9_ := ak (ho); clear HO_10; clear HO_37; clear HO_170000; clear BK168; clear BK169; clear BK179; clear HO182; clear BK185; clear HB; clear HO_13; have HO_10 := n0_; have HO_37 := n1_; have HO_170000 := n2_; have BK168 := n3_; have BK169 := n4_; have BK179 := n5_; have HO182 := n6_; have BK185 := n7_; have HB := n8_; have HO190 := n9_; clear n0_ n1_ n2_ n3_ n4_ n5_ n6_ n7_ n8_ n9_; clear ho hb hg hat; refine hK.out _ _ ⟨(blk_cell BK179.1 0).trans rfl, (blk_cell BK179.1 1).trans rfl, (blk_cell BK185.1 0).trans rfl, (blk_cell BK185.1 1).trans rfl⟩ (fun hHeld => ?_); clear hK K; refine norm_ (a' := ?_) ?_ ?_; rotate_left
              ·show Act.put _ (some 60) _ = _
               simp only [Act.put, List.setIfInBounds_toArray, List.set_cons_zero, List.set_cons_succ, i64_w, i32_w]; rfl
              refine pure_ (i := 5) (N := some 13) (v := ?_) (a' := ?_) (bl 7 63) rfl rfl (by kernel_rfl) (fun _ _ _ h => h) (Or.inl ⟨by rfl, ?_⟩) ?_ ?_; rotate_left; (intro w'; go_simp; with_reducible rfl); rotate_left; (simp only [Act.put, List.setIfInBounds_toArray, List.set_cons_zero, List.set_cons_succ, i64_w, i32_w]; rfl); refine one_ (i := 6) (N := none) (bl 7 127) rfl rfl (by kernel_rfl) (by decide) (fun K hK => ?_); have hs48 : w47.cell? ⟨gb169, 0, none⟩ = some (.slice Ao36 x170000_2.length co36) := (blk_cell BK169.1 0).trans rfl; have hfs48 := blk_frozen BK169.1 0; have hns48_0 := NB168_169.1; have hns48_2 := NB179_169.1; have hns48_3 := NB185_169.1; have hms48_0 := NB169_168.1; have hms48_2 := NB169_179.1; have hms48_3 := NB169_185.1; have hs49 : w47.cell? ⟨gb169, 1, none⟩ = some (.int .i64 x170001_2) := (blk_cell BK169.1 1).trans rfl; have hfs49 := blk_frozen BK169.1 1; have hns49_0 := NB168_169.1; have hns49_2 := NB179_169.1; have hns49_3 := NB185_169.1; have hms49_0 := NB169_168.1; have hms49_2 := NB169_179.1; have hms49_3 := NB169_185.1; refine skip_ (w1 := ?_) (by rfl) rfl ?_ ?_; rotate_left; (go_simp; rfl); refine hK.out _ _ ⟨((cell_far (p := ⟨gb169, _, none⟩) NB179_169.1 _).trans (((cell_far (p := ⟨gb169, _, none⟩) NB179_169.1 _).trans (hHeld.1)))), ((cell_far (p := ⟨gb169, _, none⟩) NB179_169.1 _).trans (((cell_far (p := ⟨gb169, _, none⟩) NB179_169.1 _).trans (hHeld.2.1)))), ((cell_far (p := ⟨gb169, _, none⟩) NB185_169.1 _).trans (((cell_far (p := ⟨gb169, _, none⟩) NB185_169.1 _).trans (hHeld.2.2.1)))), ((cell_far (p := ⟨gb169, _, none⟩) NB185_169.1 _).trans (((cell_far (p := ⟨gb169, _, none⟩) NB185_169.1 _).trans (hHeld.2.2.2))))⟩ (fun hHeld => ?_); clear hK K; refine done_ (by kernel_rfl) ?_
              try go_wp2
              go_roundg k2
              case measure => have := HK1.1; have := HK2.1; omega
              case rel => exact ⟨(wrap64 (x11_1 - 1)), (y188), (t180), (t183), (.slice Ao39 t180.length co39), (rs_), H', ⟨by have := HK1.1; have := HK2.1; omega⟩, ⟨by (with_reducible repeat (first | apply Kd.R_alloc | apply Kd.R_drewN | apply Kd.R_drew)); exact Kd.R_mono (Kd.R_far (p := ⟨gb169, 1, none⟩) (Kd.R_far (p := ⟨gb169, 0, none⟩) (Kd.R_types HO_10.1 BK169.1 (by decide)) (fun _ hk => hk.2) (.slice Ao39 t180.length co39)) (fun _ hk => hk.2) (.int .i64 t183)) (fun _ hk => hk.1)⟩, ⟨by (with_reducible repeat (first | apply Kd.R_alloc | apply Kd.R_drewN | apply Kd.R_drew)); exact Kd.R_mono (Kd.R_far (p := ⟨gb169, 1, none⟩) (Kd.R_far (p := ⟨gb169, 0, none⟩) (Kd.R_types HO190.1 BK169.1 (by decide)) (fun _ hk => hk.2) (.slice Ao39 t180.length co39)) (fun _ hk => hk.2) (.int .i64 t183)) (fun _ hk => hk.1.1)⟩, ⟨Kd.V_mono (Kd.R_V (by (with_reducible repeat (first | apply Kd.R_alloc | apply Kd.R_drewN | apply Kd.R_drew)); exact Kd.R_bound (Kd.R_far (p := ⟨gb169, 1, none⟩) (Kd.R_far (p := ⟨gb169, 0, none⟩) (Kd.R_types (Kd.R_types (Kd.R_types (Kd.R_apart' (Kd.R_apart' HO182.1 (Kd.R_typed HO_10.1) (by decide)) (Kd.R_typed HO190.1) (by decide)) BK168.1 (by decide)) BK169.1 (by decide)) BK169.1 (by decide)) (fun _ hk => hk.2) (.slice Ao39 t180.length co39)) (fun _ hk => hk.2) (.int .i64 t183)))) (by intro k_ hk; exact ⟨.inr hk.2.1, hk.1.1.1.1.1.2, hk.1.1.1.1.2, hk.1.1.1.2, hk.1.1.2⟩)⟩, ⟨by (with_reducible repeat (first | refine blk_drewN ?_ _ | refine blk_drew ?_ | refine blk_alloc ?_ _)); refine blk_far ?_ NB168_169.1 _; (with_reducible repeat (first | refine blk_drewN ?_ _ | refine blk_drew ?_ | refine blk_alloc ?_ _)); refine blk_far ?_ NB168_169.1 _; (with_reducible repeat (first | refine blk_drewN ?_ _ | refine blk_drew ?_ | refine blk_alloc ?_ _)); exact BK168.1⟩, ⟨by (with_reducible repeat (first | refine blk_drewN ?_ _ | refine blk_drew ?_ | refine blk_alloc ?_ _)); refine blk_put (cs := #[.slice Ao39 t180.length co39, .int .i64 x170001_2]) ?_ 1 _ rfl; (with_reducible repeat (first | refine blk_drewN ?_ _ | refine blk_drew ?_ | refine blk_alloc ?_ _)); refine blk_put (cs := #[.slice Ao36 x170000_2.length co36, .int .i64 x170001_2]) ?_ 0 _ rfl; (with_reducible repeat (first | refine blk_drewN ?_ _ | refine blk_drew ?_ | refine blk_alloc ?_ _)); exact BK169.1⟩, ⟨hq4_ HB.1 GE168.1 GE169.1 GE179.1 GE185.1⟩⟩
             ·rw [if_neg c29] at H; exact absurd H (by simp)
            ·rw [if_neg c28] at H; have c28b0 : ((rd t170 t186) == (wrap64 (x11_1 - 1))) = false := beq_eq_false_iff_ne.mpr c28; have c28b1 : ((rd t170 t186) != (wrap64 (x11_1 - 1))) = true := bne_iff_ne.mpr c28; have H' := ak H; clear H; have p178 : 0 ≤ (x39_2 : Int) := of_decide_eq_true (by assumption); have q178 : x39_2 < (t175.length : Int) := of_decide_eq_true (by assumption); obtain ⟨ad178, e178, hx178_0, hx178_1⟩ := at_T51 (Kd.R_reads' HO_37.1).2.2 x39_2 p178 q178
             cases e178
             replace p178 := eq_true p178; replace q178 := eq_true q178
             go_wp2_with (first | ((with_reducible refine gate_dst (N := 15) rfl ?_); refine box_event ?hg (N := 15) ?hd (cs := #[.int .i64 0, .int .i64 0]) (t := 51) ?hr ?_; (case hd => rfl); (case hg => rfl); (case hr => first | (go_simp; done) | (go_simp; rfl)); intro gb179 hg w50 hbox hb; have n0_ := ak (Kd.R_below (rq_ HO_10.1) hb); have n1_ := ak (Kd.R_below (Kd.R_elderB (rq_ HO_13.1) gb179 (Nat.le_of_eq hg.symm)) hb); have n2_ := ak (Kd.R_below (Kd.R_elderB (rq_ HO_37.1) gb179 (Nat.le_of_eq hg.symm)) hb); have n3_ := ak (Kd.V_below (Kd.V_elderB (vq_ HO_170000.1) gb179 (Nat.le_of_eq hg.symm)) hb); have n4_ := ak (blk_below (g := gb168) (o := .cells #[.int .i64 a0_0, .int .i64 a0_1, .int .i64 a0_2, .slice A0_3 l0_3.length c0_3, .slice A0_4 l0_4.length c0_4] 24 (0, 0)) (bq_ BK168.1) hb); have n5_ := ak (blk_below (g := gb169) (o := .cells #[u170000, .int .i64 x170001_2] 27 (0, 0)) (bq_ BK169.1) hb); have n6_ := ak (below_step (hq2_ HB.1 GE168.1 GE169.1) hb); have n7_ := ak (hbox); have n8_ := ak ((by rw [hg]; exact (below_size (hq2_ HB.1 GE168.1 GE169.1)) : w.heap.size ≤ gb179)); have n9_ := ak ((by rw [hg]; exact (below_size (hq2_ HB.1 GE168.1 GE169.1)) : w.heap.size ≤ gb179)); have n10_ := ak ((by rw [hg]; exact Nat.ne_of_lt (blk_lt (g := gb168) (o := .cells #[.int .i64 a0_0, .int .i64 a0_1, .int .i64 a0_2, .slice A0_3 l0_3.length c0_3, .slice A0_4 l0_4.length c0_4] 24 (0, 0)) (bq_ BK168.1)) : gb168 ≠ gb179)); have n11_ := ak ((by rw [hg]; exact Nat.ne_of_gt (blk_lt (g := gb168) (o := .cells #[.int .i64 a0_0, .int .i64 a0_1, .int .i64 a0_2, .slice A0_3 l0_3.length c0_3, .slice A0_4 l0_4.length c0_4] 24 (0, 0)) (bq_ BK168.1)) : gb179 ≠ gb168)); have n12_ := ak ((by rw [hg]; exact Nat.ne_of_lt (blk_lt (g := gb169) (o := .cells #[u170000, .int .i64 x170001_2] 27 (0, 0)) (bq_ BK169.1)) : gb169 ≠ gb179)); have n13_ := ak ((by rw [hg]; exact Nat.ne_of_gt (blk_lt (g := gb169) (o := .cells #[u170000, .int .i64 x170001_2] 27 (0, 0)) (bq_ BK169.1)) : gb179 ≠ gb169)); clear HO_10; clear HO_13; clear HO_37; clear HO_170000; clear BK168; clear BK169; clear HB; have HO_10 := n0_; have HO_13 := n1_; have HO_37 := n2_; have HO_170000 := n3_; have BK168 := n4_; have BK169 := n5_; have HB := n6_; have BK179 := n7_; have GW179 := n8_; have GE179 := n9_; have NB168_179 := n10_; have NB179_168 := n11_; have NB169_179 := n12_; have NB179_169 := n13_; clear n0_ n1_ n2_ n3_ n4_ n5_ n6_ n7_ n8_ n9_ n10_ n11_ n12_ n13_; clear hb hbox hg; have hnb51 := NB179_168.1; have hnc51 := NB168_179.1; have hnb52 := NB179_169.1; have hnc52 := NB169_179.1; have hcz53_0 : w50.cell? ⟨gb179, 0, none⟩ = some (.int .i64 0) := (blk_cell BK179.1 0).trans rfl; have hcz53_1 : w50.cell? ⟨gb179, 1, none⟩ = some (.int .i64 0) := (blk_cell BK179.1 1).trans rfl; have hfz53_0 := blk_frozen BK179.1 0; have hfz53_1 := blk_frozen BK179.1 1; have hnb54 := NB169_168.1; have hnc54 := NB168_169.1; have hcz55_0 : w50.cell? ⟨gb169, 0, none⟩ = some (u170000) := (blk_cell BK169.1 0).trans rfl; have hcz55_1 : w50.cell? ⟨gb169, 1, none⟩ = some (.int .i64 x170001_2) := (blk_cell BK169.1 1).trans rfl; have hfz55_0 := blk_frozen BK169.1 0; have hfz55_1 := blk_frozen BK169.1 1; obtain ⟨Ao56, co56, eo56⟩ := Kd.V_slice HO_170000.1; subst eo56) | ((with_reducible refine gate_callee (f := 30) rfl ?_); refine goesL_ (some 46) rfl rfl Try.func30 (by kernel_rfl) rfl #[.agg #[.slice Ao56 x170000_2.length co56, .int .i64 x170001_2], .agg #[.int .i64 ((rd_T51 t175 x39_2).f0), .int .i64 ((rd_T51 t175 x39_2).f1)]] rfl (sm_) ?_; (with_reducible refine (layout_Do.calls _ _ x170000_2 x170001_2 ((rd_T51 t175 x39_2).f0) ((rd_T51 t175 x39_2).f1) t180 t183 t184 _ ?side1 ?side2 A24.1).mono ?_); (case side1 => refine (Kd.V_reads' (e := 4) (base := w.heap.size) (ok := fun k_ => (((P2_0_ k_ ∨ w.heap.size ≤ k_) ∧ (some k_ ≠ (v171 : Value).ownBlock ∧ (some k_ ≠ (u13 : Value).ownBlock ∧ (some k_ ≠ (.slice (some ad178) t175.length co20 : Value).ownBlock ∧ (k_ ≠ gb168 ∧ k_ ≠ gb169))))) ∧ k_ ≠ gb179)) (n := x170000_2.length) (c := co56) ?_).2.2; exact (by (with_reducible repeat (first | apply Kd.V_alloc | apply Kd.V_drewN | apply Kd.V_drew)); exact (Kd.V_mono (Kd.V_far (p := ⟨gb179, 1, none⟩) (Kd.V_far (p := ⟨gb179, 0, none⟩) (Kd.V_mono HO_170000.1 (fun k_ hk => (⟨hk, hk.2⟩ : _ ∧ k_ ≠ gb179))) (fun _ hk => hk.2) (.int .i64 ((rd_T51 t175 x39_2).f0))) (fun _ hk => hk.2) (.int .i64 ((rd_T51 t175 x39_2).f1))) (fun _ h_ => h_.1)))); (case side2 => exact (Kd.V_reads' HO_170000.1).2.1); rintro e w57 ⟨v181, rfl, ho0, hb⟩; refine ⟨_, rfl, ?_⟩; have n0_ := ak (Kd.R_below (by (with_reducible repeat (first | apply Kd.R_alloc | apply Kd.R_drewN | apply Kd.R_drew)); exact (Kd.R_mono (Kd.R_far (p := ⟨gb179, 1, none⟩) (Kd.R_far (p := ⟨gb179, 0, none⟩) (Kd.R_types HO_10.1 BK179.1 (by decide)) (fun _ hk => hk.2) (.int .i64 ((rd_T51 t175 x39_2).f0))) (fun _ hk => hk.2) (.int .i64 ((rd_T51 t175 x39_2).f1))) (fun _ h_ => h_.1))) hb); have n1_ := ak (Kd.R_below (by (with_reducible repeat (first | apply Kd.R_alloc | apply Kd.R_drewN | apply Kd.R_drew)); exact (Kd.R_mono (Kd.R_far (p := ⟨gb179, 1, none⟩) (Kd.R_far (p := ⟨gb179, 0, none⟩) (Kd.R_mono HO_13.1 (fun k_ hk => (⟨hk, hk.2⟩ : _ ∧ k_ ≠ gb179))) (fun _ hk => hk.2) (.int .i64 ((rd_T51 t175 x39_2).f0))) (fun _ hk => hk.2) (.int .i64 ((rd_T51 t175 x39_2).f1))) (fun _ h_ => h_.1))) hb); have n2_ := ak (Kd.R_below (by (with_reducible repeat (first | apply Kd.R_alloc | apply Kd.R_drewN | apply Kd.R_drew)); exact (Kd.R_mono (Kd.R_far (p := ⟨gb179, 1, none⟩) (Kd.R_far (p := ⟨gb179, 0, none⟩) (Kd.R_mono HO_37.1 (fun k_ hk => (⟨hk, hk.2⟩ : _ ∧ k_ ≠ gb179))) (fun _ hk => hk.2) (.int .i64 ((rd_T51 t175 x39_2).f0))) (fun _ hk => hk.2) (.int .i64 ((rd_T51 t175 x39_2).f1))) (fun _ h_ => h_.1))) hb); have n3_ := ak (Kd.V_elder' (by (with_reducible repeat (first | apply Kd.V_alloc | apply Kd.V_drewN | apply Kd.V_drew)); exact (Kd.V_mono (Kd.V_far (p := ⟨gb179, 1, none⟩) (Kd.V_far (p := ⟨gb179, 0, none⟩) (Kd.V_mono HO_170000.1 (fun k_ hk => (⟨hk, hk.2⟩ : _ ∧ k_ ≠ gb179))) (fun _ hk => hk.2) (.int .i64 ((rd_T51 t175 x39_2).f0))) (fun _ hk => hk.2) (.int .i64 ((rd_T51 t175 x39_2).f1))) (fun _ h_ => h_.1))) (Kd.R_base ho0) hb); have n4_ := ak (Kd.R_lower (Kd.R_newM (M := fun k_ => (w.heap.size ≤ k_)) ho0 (below_size (hq3_ HB.1 GE168.1 GE169.1 GE179.1)) (fun k_ h_ => h_)) (below_size (hq3_ HB.1 GE168.1 GE169.1 GE179.1))); have n5_ := ak (blk_below (g := gb168) (o := .cells #[.int .i64 a0_0, .int .i64 a0_1, .int .i64 a0_2, .slice A0_3 l0_3.length c0_3, .slice A0_4 l0_4.length c0_4] 24 (0, 0)) (by (with_reducible repeat (first | refine blk_drewN ?_ _ | refine blk_drew ?_ | refine blk_alloc ?_ _)); refine blk_far ?_ NB168_179.1 _; (with_reducible repeat (first | refine blk_drewN ?_ _ | refine blk_drew ?_ | refine blk_alloc ?_ _)); refine blk_far ?_ NB168_179.1 _; (with_reducible repeat (first | refine blk_drewN ?_ _ | refine blk_drew ?_ | refine blk_alloc ?_ _)); exact BK168.1) hb); have n6_ := ak (blk_below (g := gb169) (o := .cells #[.slice Ao56 x170000_2.length co56, .int .i64 x170001_2] 27 (0, 0)) (by (with_reducible repeat (first | refine blk_drewN ?_ _ | refine blk_drew ?_ | refine blk_alloc ?_ _)); refine blk_far ?_ NB169_179.1 _; (with_reducible repeat (first | refine blk_drewN ?_ _ | refine blk_drew ?_ | refine blk_alloc ?_ _)); refine blk_far ?_ NB169_179.1 _; (with_reducible repeat (first | refine blk_drewN ?_ _ | refine blk_drew ?_ | refine blk_alloc ?_ _)); exact BK169.1) hb); have n7_ := ak (blk_below (g := gb179) (o := .cells #[.int .i64 ((rd_T51 t175 x39_2).f0), .int .i64 ((rd_T51 t175 x39_2).f1)] 51 (0, 0)) (by (with_reducible repeat (first | refine blk_drewN ?_ _ | refine blk_drew ?_ | refine blk_alloc ?_ _)); refine blk_put (cs := #[.int .i64 ((rd_T51 t175 x39_2).f0), .int .i64 0]) ?_ 1 _ rfl; (with_reducible repeat (first | refine blk_drewN ?_ _ | refine blk_drew ?_ | refine blk_alloc ?_ _)); refine blk_put (cs := #[.int .i64 0, .int .i64 0]) ?_ 0 _ rfl; (with_reducible repeat (first | refine blk_drewN ?_ _ | refine blk_drew ?_ | refine blk_alloc ?_ _)); exact BK179.1) hb); have n8_ := ak (below_step (hq3_ HB.1 GE168.1 GE169.1 GE179.1) hb); clear HO_10; clear HO_13; clear HO_37; clear HO_170000; clear BK168; clear BK169; clear BK179; clear HB; have HO_10 := n0_; have HO_13 := n1_; have HO_37 := n2_; have HO_170000 := n3_; have HO182 := n4_; have BK168 := n5_; have BK169 := n6_; have BK179 := n7_; have HB := n8_; clear n0_ n1_ n2_ n3_ n4_ n5_ n6_ n7_ n8_; (try clear hb); (try clear hb2); (try clear hk); (try clear hi); (try clear ho0)) | ((with_reducible refine gate_dst (N := 16) rfl ?_); refine box_event ?hg (N := 16) ?hd (cs := #[.slice none 0 0, .int .i64 0]) (t := 27) ?hr ?_; (case hd => rfl); (case hg => rfl); (case hr => first | (go_simp; done) | (go_simp; rfl)); intro gb185 hg w58 hbox hb; have n0_ := ak (Kd.R_below (rq_ HO_10.1) hb); have n1_ := ak (Kd.R_below (rq_ HO_13.1) hb); have n2_ := ak (Kd.R_below (rq_ HO_37.1) hb); have n3_ := ak (Kd.V_below (Kd.V_elderB (vq_ HO_170000.1) gb185 (Nat.le_of_eq hg.symm)) hb); have n4_ := ak (Kd.R_below (rq_ HO182.1) hb); have n5_ := ak (blk_below (g := gb168) (o := .cells #[.int .i64 a0_0, .int .i64 a0_1, .int .i64 a0_2, .slice A0_3 l0_3.length c0_3, .slice A0_4 l0_4.length c0_4] 24 (0, 0)) (bq_ BK168.1) hb); have n6_ := ak (blk_below (g := gb169) (o := .cells #[.slice Ao56 x170000_2.length co56, .int .i64 x170001_2] 27 (0, 0)) (bq_ BK169.1) hb); have n7_ := ak (blk_below (g := gb179) (o := .cells #[.int .i64 ((rd_T51 t175 x39_2).f0), .int .i64 ((rd_T51 t175 x39_2).f1)] 51 (0, 0)) (bq_ BK179.1) hb); have n8_ := ak (below_step (hq3_ HB.1 GE168.1 GE169.1 GE179.1) hb); have n9_ := ak (hbox); have n10_ := ak ((by rw [hg]; exact (below_size (hq3_ HB.1 GE168.1 GE169.1 GE179.1)) : w.heap.size ≤ gb185)); have n11_ := ak ((by rw [hg]; exact (below_size (hq3_ HB.1 GE168.1 GE169.1 GE179.1)) : w.heap.size ≤ gb185)); have n12_ := ak ((by rw [hg]; exact Nat.ne_of_lt (blk_lt (g := gb168) (o := .cells #[.int .i64 a0_0, .int .i64 a0_1, .int .i64 a0_2, .slice A0_3 l0_3.length c0_3, .slice A0_4 l0_4.length c0_4] 24 (0, 0)) (bq_ BK168.1)) : gb168 ≠ gb185)); have n13_ := ak ((by rw [hg]; exact Nat.ne_of_gt (blk_lt (g := gb168) (o := .cells #[.int .i64 a0_0, .int .i64 a0_1, .int .i64 a0_2, .slice A0_3 l0_3.length c0_3, .slice A0_4 l0_4.length c0_4] 24 (0, 0)) (bq_ BK168.1)) : gb185 ≠ gb168)); have n14_ := ak ((by rw [hg]; exact Nat.ne_of_lt (blk_lt (g := gb169) (o := .cells #[.slice Ao56 x170000_2.length co56, .int .i64 x170001_2] 27 (0, 0)) (bq_ BK169.1)) : gb169 ≠ gb185)); have n15_ := ak ((by rw [hg]; exact Nat.ne_of_gt (blk_lt (g := gb169) (o := .cells #[.slice Ao56 x170000_2.length co56, .int .i64 x170001_2] 27 (0, 0)) (bq_ BK169.1)) : gb185 ≠ gb169)); have n16_ := ak ((by rw [hg]; exact Nat.ne_of_lt (blk_lt (g := gb179) (o := .cells #[.int .i64 ((rd_T51 t175 x39_2).f0), .int .i64 ((rd_T51 t175 x39_2).f1)] 51 (0, 0)) (bq_ BK179.1)) : gb179 ≠ gb185)); have n17_ := ak ((by rw [hg]; exact Nat.ne_of_gt (blk_lt (g := gb179) (o := .cells #[.int .i64 ((rd_T51 t175 x39_2).f0), .int .i64 ((rd_T51 t175 x39_2).f1)] 51 (0, 0)) (bq_ BK179.1)) : gb185 ≠ gb179)); clear HO_10; clear HO_13; clear HO_37; clear HO_170000; clear HO182; clear BK168; clear BK169; clear BK179; clear HB; have HO_10 := n0_; have HO_13 := n1_; have HO_37 := n2_; have HO_170000 := n3_; have HO182 := n4_; have BK168 := n5_; have BK169 := n6_; have BK179 := n7_; have HB := n8_; have BK185 := n9_; have GW185 := n10_; have GE185 := n11_; have NB168_185 := n12_; have NB185_168 := n13_; have NB169_185 := n14_; have NB185_169 := n15_; have NB179_185 := n16_; have NB185_179 := n17_; clear n0_ n1_ n2_ n3_ n4_ n5_ n6_ n7_ n8_ n9_ n10_ n11_ n12_ n13_ n14_ n15_ n16_ n17_; clear hb hbox hg; obtain ⟨Ao59, co59, eo59⟩ := Kd.R_slice HO182.1; subst eo59; have hnb60 := NB185_168.1; have hnc60 := NB168_185.1; have hnb61 := NB185_169.1; have hnc61 := NB169_185.1; have hnb62 := NB185_179.1; have hnc62 := NB179_185.1; have hcz63_0 : w58.cell? ⟨gb185, 0, none⟩ = some (.slice none 0 0) := (blk_cell BK185.1 0).trans rfl; have hcz63_1 : w58.cell? ⟨gb185, 1, none⟩ = some (.int .i64 0) := (blk_cell BK185.1 1).trans rfl; have hfz63_0 := blk_frozen BK185.1 0; have hfz63_1 := blk_frozen BK185.1 1) | ((with_reducible refine gate_callee (f := 31) rfl ?_); refine goesL_ (some 51) rfl rfl Try.func31 (by kernel_rfl) rfl #[.agg #[.slice Ao59 t180.length co59, .int .i64 t183]] rfl (sm_) ?_; (with_reducible refine (layout_Rank.calls _ _ t180 t183 t186 _ ?side1 ?side2 A25.1).mono ?_); (case side1 => refine (Kd.R_reads' (e := 4) (base := w.heap.size) (ok := fun k_ => ((w.heap.size ≤ k_) ∧ True)) (n := t180.length) (c := co59) ?_).2.2; exact (by (with_reducible repeat (first | apply Kd.R_alloc | apply Kd.R_drewN | apply Kd.R_drew)); exact (Kd.R_mono (Kd.R_far (p := ⟨gb185, 1, none⟩) (Kd.R_far (p := ⟨gb185, 0, none⟩) (Kd.R_types HO182.1 BK185.1 (by decide)) (fun _ hk => hk.2) (.slice Ao59 t180.length co59)) (fun _ hk => hk.2) (.int .i64 t183)) (fun _ h_ => h_.1)))); (case side2 => exact (Kd.R_reads' HO182.1).2.1); rintro e w64 ⟨rfl, hb⟩; refine ⟨_, rfl, ?_⟩; have n0_ := ak (Kd.R_below (by (with_reducible repeat (first | apply Kd.R_alloc | apply Kd.R_drewN | apply Kd.R_drew)); exact (Kd.R_mono (Kd.R_far (p := ⟨gb185, 1, none⟩) (Kd.R_far (p := ⟨gb185, 0, none⟩) (Kd.R_types HO_10.1 BK185.1 (by decide)) (fun _ hk => hk.2) (.slice Ao59 t180.length co59)) (fun _ hk => hk.2) (.int .i64 t183)) (fun _ h_ => h_.1))) hb); have n1_ := ak (Kd.R_below (by (with_reducible repeat (first | apply Kd.R_alloc | apply Kd.R_drewN | apply Kd.R_drew)); exact (Kd.R_mono (Kd.R_far (p := ⟨gb185, 1, none⟩) (Kd.R_far (p := ⟨gb185, 0, none⟩) (Kd.R_types HO_13.1 BK185.1 (by decide)) (fun _ hk => hk.2) (.slice Ao59 t180.length co59)) (fun _ hk => hk.2) (.int .i64 t183)) (fun _ h_ => h_.1))) hb); have n2_ := ak (Kd.R_below (by (with_reducible repeat (first | apply Kd.R_alloc | apply Kd.R_drewN | apply Kd.R_drew)); exact (Kd.R_mono (Kd.R_far (p := ⟨gb185, 1, none⟩) (Kd.R_far (p := ⟨gb185, 0, none⟩) (Kd.R_types HO_37.1 BK185.1 (by decide)) (fun _ hk => hk.2) (.slice Ao59 t180.length co59)) (fun _ hk => hk.2) (.int .i64 t183)) (fun _ h_ => h_.1))) hb); have n3_ := ak (Kd.V_below (by (with_reducible repeat (first | apply Kd.V_alloc | apply Kd.V_drewN | apply Kd.V_drew)); exact (Kd.V_mono (Kd.V_far (p := ⟨gb185, 1, none⟩) (Kd.V_far (p := ⟨gb185, 0, none⟩) (Kd.V_mono HO_170000.1 (fun k_ hk => (⟨hk, hk.2⟩ : _ ∧ k_ ≠ gb185))) (fun _ hk => hk.2) (.slice Ao59 t180.length co59)) (fun _ hk => hk.2) (.int .i64 t183)) (fun _ h_ => h_.1))) hb); have n4_ := ak (Kd.R_below (by (with_reducible repeat (first | apply Kd.R_alloc | apply Kd.R_drewN | apply Kd.R_drew)); exact (Kd.R_mono (Kd.R_far (p := ⟨gb185, 1, none⟩) (Kd.R_far (p := ⟨gb185, 0, none⟩) (Kd.R_types HO182.1 BK185.1 (by decide)) (fun _ hk => hk.2) (.slice Ao59 t180.length co59)) (fun _ hk => hk.2) (.int .i64 t183)) (fun _ h_ => h_.1))) hb); have n5_ := ak (blk_below (g := gb168) (o := .cells #[.int .i64 a0_0, .int .i64 a0_1, .int .i64 a0_2, .slice A0_3 l0_3.length c0_3, .slice A0_4 l0_4.length c0_4] 24 (0, 0)) (by (with_reducible repeat (first | refine blk_drewN ?_ _ | refine blk_drew ?_ | refine blk_alloc ?_ _)); refine blk_far ?_ NB168_185.1 _; (with_reducible repeat (first | refine blk_drewN ?_ _ | refine blk_drew ?_ | refine blk_alloc ?_ _)); refine blk_far ?_ NB168_185.1 _; (with_reducible repeat (first | refine blk_drewN ?_ _ | refine blk_drew ?_ | refine blk_alloc ?_ _)); exact BK168.1) hb); have n6_ := ak (blk_below (g := gb169) (o := .cells #[.slice Ao56 x170000_2.length co56, .int .i64 x170001_2] 27 (0, 0)) (by (with_reducible repeat (first | refine blk_drewN ?_ _ | refine blk_drew ?_ | refine blk_alloc ?_ _)); refine blk_far ?_ NB169_185.1 _; (with_reducible repeat (first | refine blk_drewN ?_ _ | refine blk_drew ?_ | refine blk_alloc ?_ _)); refine blk_far ?_ NB169_185.1 _; (with_reducible repeat (first | refine blk_drewN ?_ _ | refine blk_drew ?_ | refine blk_alloc ?_ _)); exact BK169.1) hb); have n7_ := ak (blk_below (g := gb179) (o := .cells #[.int .i64 ((rd_T51 t175 x39_2).f0), .int .i64 ((rd_T51 t175 x39_2).f1)] 51 (0, 0)) (by (with_reducible repeat (first | refine blk_drewN ?_ _ | refine blk_drew ?_ | refine blk_alloc ?_ _)); refine blk_far ?_ NB179_185.1 _; (with_reducible repeat (first | refine blk_drewN ?_ _ | refine blk_drew ?_ | refine blk_alloc ?_ _)); refine blk_far ?_ NB179_185.1 _; (with_reducible repeat (first | refine blk_drewN ?_ _ | refine blk_drew ?_ | refine blk_alloc ?_ _)); exact BK179.1) hb); have n8_ := ak (blk_below (g := gb185) (o := .cells #[.slice Ao59 t180.length co59, .int .i64 t183] 27 (0, 0)) (by (with_reducible repeat (first | refine blk_drewN ?_ _ | refine blk_drew ?_ | refine blk_alloc ?_ _)); refine blk_put (cs := #[.slice Ao59 t180.length co59, .int .i64 0]) ?_ 1 _ rfl; (with_reducible repeat (first | refine blk_drewN ?_ _ | refine blk_drew ?_ | refine blk_alloc ?_ _)); refine blk_put (cs := #[.slice none 0 0, .int .i64 0]) ?_ 0 _ rfl; (with_reducible repeat (first | refine blk_drewN ?_ _ | refine blk_drew ?_ | refine blk_alloc ?_ _)); exact BK185.1) hb); have n9_ := ak (below_step (hq4_ HB.1 GE168.1 GE169.1 GE179.1 GE185.1) hb); clear HO_10; clear HO_13; clear HO_37; clear HO_170000; clear HO182; clear BK168; clear BK169; clear BK179; clear BK185; clear HB; have HO_10 := n0_; have HO_13 := n1_; have HO_37 := n2_; have HO_170000 := n3_; have HO182 := n4_; have BK168 := n5_; have BK169 := n6_; have BK179 := n7_; have BK185 := n8_; have HB := n9_; clear n0_ n1_ n2_ n3_ n4_ n5_ n6_ n7_ n8_ n9_; (try clear hb); (try clear hb2); (try clear hk); (try clear hi); obtain ⟨Ao65, co65, eo65⟩ := Kd.R_slice HO_10.1; subst eo65; have p187 : 0 ≤ (t186 : Int) := of_decide_eq_true (by assumption); have q187 : t186 < (t170.length : Int) := of_decide_eq_true (by assumption); obtain ⟨ad187, e187, hx187_0⟩ := Kd.at_int (Kd.R_reads' HO_10.1).2.2 t186 p187 q187; cases e187; replace p187 := eq_true p187; replace q187 := eq_true q187))
             go_roundg k2
             case measure => have := HK1.1; have := HK2.1; omega
             case rel => exact ⟨(x13_2), (wrap64 (x39_2 + 1)), (x170000_2), (x170001_2), (.slice Ao56 x170000_2.length co56), (rs_), H', ⟨by have := HK1.1; have := HK2.1; omega⟩, ⟨by (with_reducible repeat (first | apply Kd.R_alloc | apply Kd.R_drewN | apply Kd.R_drew)); exact HO_10.1⟩, ⟨by (with_reducible repeat (first | apply Kd.R_alloc | apply Kd.R_drewN | apply Kd.R_drew)); exact Kd.R_mono HO_13.1 (fun _ hk => ⟨hk.1.1, hk.1.2⟩)⟩, ⟨by (with_reducible repeat (first | apply Kd.R_alloc | apply Kd.R_drewN | apply Kd.R_drew)); exact Kd.R_mono HO_37.1 (fun _ hk => ⟨hk.1.1, hk.1.2⟩)⟩, ⟨by (with_reducible repeat (first | apply Kd.V_alloc | apply Kd.V_drewN | apply Kd.V_drew)); exact Kd.V_mono HO_170000.1 (fun _ hk => ⟨hk.1.1.1.1, ⟨hk.1.1.1.2.1, ⟨hk.1.1.1.2.2.1, ⟨hk.1.1.1.2.2.2.1, ⟨hk.1.1.1.2.2.2.2.1, hk.1.1.1.2.2.2.2.2⟩⟩⟩⟩⟩)⟩, ⟨by (with_reducible repeat (first | refine blk_drewN ?_ _ | refine blk_drew ?_ | refine blk_alloc ?_ _)); exact BK168.1⟩, ⟨by (with_reducible repeat (first | refine blk_drewN ?_ _ | refine blk_drew ?_ | refine blk_alloc ?_ _)); exact BK169.1⟩, ⟨hq4_ HB.1 GE168.1 GE169.1 GE179.1 GE185.1⟩⟩
           ·rw [if_neg c27] at H; exact absurd H (by simp)
          ·rw [if_neg c26] at H; exact absurd H (by simp)
         ·rw [if_neg c23] at H; exact absurd H (by simp)
        ·rw [if_neg c22] at H; exact absurd H (by simp)
       ·rw [if_neg c21] at H; have c21b0 : decide (x39_2 < (t175.length : Int)) = false := decide_eq_false c21; clear c21; have H' := ak H; clear H
        go_wp2
        go_roundg k2
        case measure => have := HK1.1; have := HK2.1; omega
        case rel => exact ⟨(wrap64 (x11_1 - 1)), (x13_2), (x170000_2), (x170001_2), (u170000), (rs_), H', ⟨by have := HK1.1; have := HK2.1; omega⟩, ⟨by (with_reducible repeat (first | apply Kd.R_alloc | apply Kd.R_drewN | apply Kd.R_drew)); exact HO_10.1⟩, ⟨by (with_reducible repeat (first | apply Kd.R_alloc | apply Kd.R_drewN | apply Kd.R_drew)); exact Kd.R_mono HO_13.1 (fun _ hk => hk.1)⟩, ⟨by (with_reducible repeat (first | apply Kd.V_alloc | apply Kd.V_drewN | apply Kd.V_drew)); exact Kd.V_mono HO_170000.1 (fun _ hk => ⟨hk.1, ⟨hk.2.1, ⟨hk.2.2.1, ⟨hk.2.2.2.2.1, hk.2.2.2.2.2⟩⟩⟩⟩)⟩, ⟨by (with_reducible repeat (first | refine blk_drewN ?_ _ | refine blk_drew ?_ | refine blk_alloc ?_ _)); exact BK168.1⟩, ⟨by (with_reducible repeat (first | refine blk_drewN ?_ _ | refine blk_drew ?_ | refine blk_alloc ?_ _)); exact BK169.1⟩, ⟨hq2_ HB.1 GE168.1 GE169.1⟩⟩
    ·rw [if_neg c13] at H; have c13b0 : decide (0 < x11_1) = false := decide_eq_false c13; clear c13; simp only [Option.some.injEq, Prod.mk.injEq] at H; obtain ⟨rfl, rfl⟩ := H
     go_wp2
     go_ret2
     exact ⟨_, er_, by (with_reducible repeat (first | apply Kd.R_alloc | apply Kd.R_drewN | apply Kd.R_drew)); exact HO_13.1, hq2_ HB.1 GE168.1 GE169.1⟩
 ·rw [if_neg c6] at H; have c6b0 : (t174 == 0) = false := beq_eq_false_iff_ne.mpr c6; have c6b1 : (t174 != 0) = true := bne_iff_ne.mpr c6; simp only [Option.some.injEq, Prod.mk.injEq] at H; obtain ⟨rfl, rfl⟩ := H
  go_enter Try.func20, Try.ntmps20
  go_wp2_with (first | ((with_reducible refine gate_dst (N := 4) rfl ?_); refine box_event ?hg (N := 4) ?hd (cs := #[.int .i64 a0_0, .int .i64 a0_1, .int .i64 a0_2, .slice A0_3 l0_3.length c0_3, .slice A0_4 l0_4.length c0_4]) (t := 24) ?hr ?_; (case hd => rfl); (case hg => rfl); (case hr => first | (go_simp; done) | (go_simp; rfl)); intro gb168 hg w66 hbox hb; replace HO2_0 := ak (Kd.V_below (Kd.V_elderB HO2_0.1 gb168 (Nat.le_of_eq hg.symm)) hb); have BK168 := ak (hbox); have GW168 := gw_ hg HB.1.size; have GE168 := gw_ hg HB.1.size; replace HB := ak (below_step HB.1 hb); clear hb hbox hg) | ((with_reducible refine gate_dst (N := 6) rfl ?_); refine box_event ?hg (N := 6) ?hd (cs := #[.slice A2_0 l2_0.length c2_0, .int .i64 a2_1]) (t := 27) ?hr ?_; (case hd => rfl); (case hg => rfl); (case hr => first | (go_simp; done) | (go_simp; rfl)); intro gb169 hg w67 hbox hb; have n0_ := ak (Kd.V_below (Kd.V_elderB HO2_0.1 gb169 (Nat.le_of_eq hg.symm)) hb); have n1_ := ak (blk_below BK168.1 hb); have n2_ := ak (below_step HB.1 hb); have n3_ := ak (hbox); have n4_ := gw_ hg HB.1.size; have n5_ := gw_ hg HB.1.size; have n6_ := ak ((by rw [hg]; exact Nat.ne_of_lt (blk_lt BK168.1) : gb168 ≠ gb169)); have n7_ := ak ((by rw [hg]; exact Nat.ne_of_gt (blk_lt BK168.1) : gb169 ≠ gb168)); clear HO2_0 BK168 HB; have HO2_0 := n0_; have BK168 := n1_; have HB := n2_; have BK169 := n3_; have GW169 := n4_; have GE169 := n5_; have NB168_169 := n6_; have NB169_168 := n7_; clear n0_ n1_ n2_ n3_ n4_ n5_ n6_ n7_; clear hb hbox hg; have hnb68 := NB168_169.1; have hnc68 := NB169_168.1; obtain ⟨hcz69_0, hcz69_1, hcz69_2, hcz69_3, hcz69_4, hfz69_0, hfz69_1, hfz69_2, hfz69_3, hfz69_4⟩ := bk5 BK168.1; obtain ⟨hcz70_0, hcz70_1, hfz70_0, hfz70_1⟩ := bk2 BK169.1) | ((with_reducible refine gate_callee (f := 61) rfl ?_); refine goesL_ (some 23) rfl rfl Try.func61 (by kernel_rfl) rfl #[.agg #[.int .i64 a0_0, .int .i64 a0_1, .int .i64 a0_2, .slice A0_3 l0_3.length c0_3, .slice A0_4 l0_4.length c0_4], .slice A1 l1.length c1, .agg #[.slice A2_0 l2_0.length c2_0, .int .i64 a2_1], .int .i64 a3] rfl (sm_) ?_; (with_reducible refine (puzzle_distances.calls k a0_0 a0_1 a0_2 _ _ l0_3 _ _ l0_4 _ _ l1 _ _ l2_0 a2_1 a3 t170 t173 t174 _ ?side1 ?side2 ?side3 ?side4 ?side5 ?side6 ?side7 ?side8 A5.1).mono ?_); (case side1 => exact (Kd.C_below HR0_3.1 HB.1)); (case side2 => exact HC0_3.1); (case side3 => exact (Kd.C_below HR0_4.1 HB.1)); (case side4 => exact HC0_4.1); (case side5 => exact (Kd.C_below HR1.1 HB.1)); (case side6 => exact HC1.1); (case side7 => exact (Kd.V_reads' HO2_0.1).2.2); (case side8 => exact (Kd.V_reads' HO2_0.1).2.1); rintro e w71 ⟨v171, rfl, ho0, hb⟩; refine ⟨_, rfl, ?_⟩; replace HO2_0 := ak (Kd.V_elder' HO2_0.1 (Kd.R_base ho0) hb); replace BK168 := ak (blk_below BK168.1 hb); replace BK169 := ak (blk_below BK169.1 hb); have HO172 := ak (Kd.R_lower (Kd.R_newM (M := fun k_ => (w.heap.size ≤ k_)) ho0 HB.1.size (fun k_ h_ => h_)) HB.1.size); replace HB := ak (below_step HB.1 hb); (try clear hb); (try clear ho0)))
  go_ret2
  exact ⟨_, er_, by first | exact Kd.R_nil _ _ _ _ _ | exact Kd.N_nil _ _ _ _ _ | exact Kd.V_nil _ _ _ _ _ | exact Kd.Q_nil _ _ _ _ _ | exact Kd.S_nil _ _ _ _ _, hq2_ HB.1 GE168.1 GE169.1⟩
end Go.Proofs.Ytogmjilaiopjmaa.P
end
section
namespace Go.Proofs.Ytogmjilaiopjmaa.P
open Go.RowKit Go.Proofs.YtogmjilaiopjmaaW.PrintWords Go.Proofs.YtogmjilaiopjmaaW.PrintLast Go.Proofs.YtogmjilaiopjmaaW.PrintMore
theorem flatMap_len {α β : Type} (f : α → List β) (c : Nat) (h : ∀ x, (f x).length ≤ c) : ∀ l : List α, (l.flatMap f).length ≤ l.length * c
 | [] => by simp
 | a :: l => by
  have h1 := flatMap_len f c h l; have h2 := h a; rw [List.flatMap_cons, List.length_append, List.length_cons, Nat.add_mul, Nat.one_mul]
  omega
theorem shiftsN_len (W H D : Int) (K O r : List Int) (l : List Bool) (full : Bool) : (shiftsN W H D K O r l full).length ≤ r.length * r.length := by
 unfold shiftsN
 refine Nat.le_trans (flatMap_len _ r.length (fun i => ?_) _) (by rw [List.length_range]; exact Nat.le_refl _); exact Nat.le_trans (List.length_filterMap_le _ _) (by rw [List.length_range]; exact Nat.le_refl _)
theorem drop_cons {α : Type} (ss : List α) (j : Nat) (h : j < ss.length) : ss.drop j = ss[j] :: ss.drop (j + 1) := List.drop_eq_getElem_cons h
theorem rd51_at {ss : List S51} {j : Nat} (h : j < ss.length) : rd_T51 ss (j : Int) = ss[j] := by
 unfold rd_T51
 rw [Int.toNat_natCast, List.getD_eq_getElem?_getD, List.getElem?_eq_getElem h]; rfl
def mvL (l : List Bool) (s : S51) : List Bool := moveL l s.f0.toNat s.f1.toNat
def mvT (t : Nat) (s : S51) : Nat := moveT t s.f0.toNat s.f1.toNat
def stepsTo (out : List Int) (l : List Bool) (t d : Nat) (s : S51) : Bool := out.getD (rankN (mvL l s) (mvT t s)) 0 == (d : Int)
section
variable {W H D : Int} {K O r : List Int} {n k g : Nat} {out : List Int} {l : List Bool} {t x : Nat}
theorem Lay.shiftE (h : Lay n k l t x) (hr : r.length = n) (hn : n ≤ 24) {s : S51} (hs : s ∈ shiftsN W H D K O r l true) :
  layout_Do.f l (t : Int) s.f0 s.f1 = some (mvL l s, ((mvT t s : Nat) : Int), 0) ∧ Lay n k (mvL l s) (mvT t s) (rankN (mvL l s) (mvT t s)) ∧ Edge W H D K O r n k x (rankN (mvL l s) (mvT t s)) := by
 obtain ⟨i, j, hi, hj, h1, h2, hg, rfl⟩ := mem_shiftsN.1 hs
 have h2' : l.getD j false = false := by simpa using h2
 have hl := h.len; have hlt := h.lt
 unfold mvL mvT
 simp only [Int.toNat_natCast]; obtain ⟨q1, q2⟩ := moveT_right (l := l) (t := t) (i := i) (j := j) (by omega) (by omega) (by omega) h.at_; refine ⟨do_move (by omega) (by omega) (by omega) h1 h2', ⟨by rw [moveL_len]; exact hl, by omega, q2, by rw [shel_move (by omega) (by omega) h1 h2']; exact h.sh, rfl⟩, ?_⟩; obtain ⟨u1, u2⟩ := h.unr; exact ⟨i, j, by omega, by omega, by rw [u1]; exact h1, by rw [u1]; exact h2', hg, by rw [u1, u2]⟩
theorem Lay.nearer (h : Lay n k l t x) (hr : r.length = n) (hok : TableOk W H D K O r n k (g : Int) out) {d : Nat} (hd : out.getD x 0 = ((d + 1 : Nat) : Int)) : ∃ s, (shiftsN W H D K O r l true).find? (stepsTo out l t d) = some s := by
 obtain ⟨z, hz, ⟨i, j, hi, hj, h1, h2, hg, rfl⟩, hdz⟩ := hok.next x h.x_lt (by omega); obtain ⟨u1, u2⟩ := h.unr; rw [u1] at h1 h2; rw [u1, u2] at hdz; have hm : (⟨(i : Int), (j : Int)⟩ : S51) ∈ shiftsN W H D K O r l true := mem_shiftsN.2 ⟨i, j, by omega, by omega, h1, by rw [h2]; simp, hg, rfl⟩
 have hp : stepsTo out l t d ⟨(i : Int), (j : Int)⟩ = true := by
  unfold stepsTo mvL mvT
  simp only [Int.toNat_natCast, beq_iff_eq]
  omega
 have := List.find?_isSome.2 ⟨_, hm, hp⟩; exact Option.isSome_iff_exists.1 this
def solveP (W H D : Int) (K O r : List Int) (out : List Int) : Nat → List Bool → Nat → List S51
 | 0, _, _ => []
 | d + 1, l, t => match (shiftsN W H D K O r l true).find? (stepsTo out l t d) with
  | some s => s :: solveP W H D K O r out d (mvL l s) (mvT t s)
  | none => []
theorem solve_l1 (hf : FloorOk W H D K O) (hs : r.Pairwise (· < ·)) (hr : r.length = n) (hn : n ≤ 12) (hok : TableOk W H D K O r n k (g : Int) out) (hl : Lay n k l t x) {d : Nat} (hd : d ≤ 1000000) (acc : List S51) (ha : acc.length ≤ 10000000) {s : S51} :
  ∀ (m K2 j : Nat), j + m = (shiftsN W H D K O r l true).length → ((shiftsN W H D K O r l true).drop j).find? (stepsTo out l t d) = some s → m + 1 ≤ K2 →
   ∃ K3, K2 ≤ K3 + m + 1 ∧ puzzle_Solve.l1 K2 r out ((d + 1 : Nat) : Int) acc (shiftsN W H D K O r l true) ((shiftsN W H D K O r l true).length : Int) (j : Int) W H D K O l (t : Int) = puzzle_Solve.l0 K3 r out (d : Int) (acc ++ [s]) W H D K O (mvL l s) ((mvT t s : Nat) : Int)
 | m, 0, j, _, _, h => by omega
 | 0, K2 + 1, j, hj, hf, _ => by
  rw [List.drop_eq_nil_iff.2 (by omega)] at hf
  cases hf
 | m + 1, K2 + 1, j, hj, hfd, hK => by
  have hss := shiftsN_len W H D K O r l true
  have hnn : r.length * r.length ≤ 144 := by rw [hr]; exact Nat.mul_le_mul hn hn
  have hjl : j < (shiftsN W H D K O r l true).length := by omega
  obtain ⟨e1, e2, e3⟩ := hl.shiftE hr (by omega) (List.getElem_mem hjl); rw [drop_cons _ _ hjl, List.find?_cons] at hfd; have hrk := e2.rank_f (by omega); have hol := hok.len; have hxl := e2.x_lt; rw [puzzle_Solve.l1, if_pos (by omega), if_pos (by omega), if_pos (by omega), rd51_at hjl, e1, Option.bind_some]; dsimp only; rw [hrk, Option.bind_some, if_pos (by omega), if_pos (by omega)]
  have erd : rd out ((rankN (mvL l (shiftsN W H D K O r l true)[j]) (mvT t (shiftsN W H D K O r l true)[j]) : Nat) : Int) = out.getD (rankN (mvL l (shiftsN W H D K O r l true)[j]) (mvT t (shiftsN W H D K O r l true)[j])) 0 := by unfold rd; rw [Int.toNat_natCast]
  have ew : wrap64 (((d + 1 : Nat) : Int) - 1) = (d : Int) := by unfold wrap64; omega
  rw [erd, ew]
  by_cases hp : stepsTo out l t d (shiftsN W H D K O r l true)[j] = true
  ·rw [hp] at hfd
   injection hfd with hfd
   subst hfd; have hp2 := hp
   unfold stepsTo at hp2
   rw [beq_iff_eq] at hp2; rw [if_pos hp2, if_pos (by omega)]; exact ⟨K2, by omega, rfl⟩
  ·rw [Bool.not_eq_true] at hp; rw [hp] at hfd; have hp2 := hp
   unfold stepsTo at hp2
   rw [beq_eq_false_iff_ne] at hp2; rw [if_neg hp2, wrap_nat (by omega)]; obtain ⟨K3, c1, c2⟩ := solve_l1 hf hs hr hn hok hl hd acc ha m K2 (j + 1) (by omega) hfd (by omega); exact ⟨K3, by omega, c2⟩
theorem solve_l0 (hf : FloorOk W H D K O) (hs : r.Pairwise (· < ·)) (hr : r.length = n) (hn : n ≤ 12) (hok : TableOk W H D K O r n k (g : Int) out) :
  ∀ (d K2 : Nat) (l : List Bool) (t x : Nat) (acc : List S51), d ≤ 1000000 → acc.length + d ≤ 10000000 → Lay n k l t x → out.getD x 0 = (d : Int) → d * 200 + 1 ≤ K2 →
   puzzle_Solve.l0 K2 r out (d : Int) acc W H D K O l (t : Int) = some (acc ++ solveP W H D K O r out d l t, 0)
 | d, 0, _, _, _, _, _, _, _, _, h => by omega
 | 0, K2 + 1, l, t, x, acc, _, _, _, _, _ => by
  rw [puzzle_Solve.l0, if_neg (by omega)]
  simp [solveP]
 | d + 1, K2 + 1, l, t, x, acc, hd, ha, hl, hx, hK => by
  have hss := shiftsN_len W H D K O r l true
  have hnn : r.length * r.length ≤ 144 := by rw [hr]; exact Nat.mul_le_mul hn hn
  rw [puzzle_Solve.l0, if_pos (by omega), hl.shifts_f hf hs hr (by omega), Option.bind_some]; obtain ⟨s, hfd⟩ := hl.nearer hr hok hx; obtain ⟨K3, c1, c2⟩ := solve_l1 hf hs hr hn hok hl (d := d) (by omega) acc (by omega) (s := s) _ K2 0 (Nat.zero_add _) (by rw [List.drop_zero]; exact hfd) (by omega); rw [show (0 : Int) = ((0 : Nat) : Int) from rfl, c2]; obtain ⟨e1, e2, e3⟩ := hl.shiftE hr (by omega) (List.mem_of_find?_eq_some hfd); have hp := List.find?_some hfd
  unfold stepsTo at hp
  rw [beq_iff_eq] at hp; rw [solve_l0 hf hs hr hn hok d K3 _ _ _ _ (by omega) (by rw [List.length_append]; simp; omega) e2 hp (by omega)]; rw [solveP, hfd]
  simp
theorem solveP_len (hr : r.length = n) (hn : n ≤ 24) (hok : TableOk W H D K O r n k (g : Int) out) : ∀ (d : Nat) (l : List Bool) (t x : Nat), Lay n k l t x → out.getD x 0 = (d : Int) → (solveP W H D K O r out d l t).length = d
 | 0, _, _, _, _, _ => rfl
 | d + 1, l, t, x, hl, hx => by
  obtain ⟨s, hfd⟩ := hl.nearer hr hok hx; obtain ⟨e1, e2, e3⟩ := hl.shiftE hr hn (List.mem_of_find?_eq_some hfd); have hp := List.find?_some hfd
  unfold stepsTo at hp
  rw [beq_iff_eq] at hp; rw [solveP, hfd]; dsimp only; rw [List.length_cons, solveP_len hr hn hok d _ _ _ e2 hp]
end
theorem solve_in {W H D : Int} {K O r : List Int} {l : List Bool} {t : Int} {g : Nat} (hf : FloorOk W H D K O) (hs : r.Pairwise (· < ·)) (hl : okL l t = true) (hlen : l.length = r.length) (hn : r.length ≤ 12) (hg : g < r.length) (k : Nat) (hk : 100000000 ≤ k) :
  ∃ out, puzzle_Table.f W H D K O r (shel l : Int) (g : Int) = some (out, 0) ∧ TableOk W H D K O r r.length (shel l) (g : Int) out ∧
   puzzle_Solve.f k W H D K O r l t (g : Int) = some (if out.getD (rankN l t.toNat) 0 < 0 then ([], 14) else (solveP W H D K O r out (out.getD (rankN l t.toNat) 0).toNat l t.toNat, 0)) := by
 obtain ⟨out, h1, h2, h3⟩ := least_in hf hs hl hlen hn hg k (by omega); refine ⟨out, h1, h2, ?_⟩; have hL := Lay.of_ok hl; rw [hlen] at hL
 have hT : ((t.toNat : Nat) : Int) = t := by have := (okL_iff.1 hl).2.2.1; omega
 have hhi := h2.hi _ hL.x_lt
 unfold puzzle_Solve.f
 rw [h3, Option.bind_some]
 by_cases h0 : out.getD (rankN l t.toNat) 0 < 0
 ·rw [if_pos h0, if_pos h0]; rfl
 ·rw [if_neg h0, if_neg h0]; dsimp only; rw [if_pos rfl]
  have he : out.getD (rankN l t.toNat) 0 = (((out.getD (rankN l t.toNat) 0).toNat : Nat) : Int) := by omega
  have h4 := solve_l0 hf hs rfl hn h2 (out.getD (rankN l t.toNat) 0).toNat k l t.toNat _ [] (by omega) (by rw [List.length_nil]; omega) hL he (by omega); rw [← he, hT, List.nil_append] at h4; exact h4
theorem solve_range {W H D : Int} {K O r : List Int} {l : List Bool} {t goal : Int} (hl : okL l t = true) (hlen : l.length = r.length) (hn : r.length ≤ 12) (hg : goal < 0 ∨ (r.length : Int) ≤ goal) (k : Nat) (hk : 30 ≤ k) :
  puzzle_Solve.f k W H D K O r l t goal = some ([], 3) := by
 unfold puzzle_Solve.f puzzle_distances.f
 rw [shelvesK_f l t (by omega) k (by omega), Option.bind_some]
 have e : puzzle_Table.f W H D K O r (shel l : Int) goal = some ([], 3) := by
  unfold puzzle_Table.f
  rw [if_neg (by omega), if_pos (.inr (.inr hg))]
 rw [e, Option.bind_some]
 simp
end Go.Proofs.Ytogmjilaiopjmaa.P
end
section
namespace Go.Proofs.Ytogmjilaiopjmaa.P
open Go.RowKit Go.Proofs.YtogmjilaiopjmaaW.PrintWords Go.Proofs.YtogmjilaiopjmaaW.PrintLast Go.Proofs.YtogmjilaiopjmaaW.PrintMore
section
variable {W H D : Int} {K O : List Int}
theorem FloorOk.rsize_f (h : FloorOk W H D K O) : taquinref07_Size.f W H D K O = some (W * H * D) := h.size_f
theorem FloorOk.ris_f (h : FloorOk W H D K O) (c : Int) : taquinref07_Is.f W H D K O c = some (decide (0 ≤ c ∧ c < W * H * D)) := by
 unfold taquinref07_Is.f
 by_cases hc : c ≥ 0
 ·rw [if_pos hc, h.rsize_f]
  simp [hc]
 ·rw [if_neg hc]
  congr 1
  exact (decide_eq_false (by omega)).symm
theorem FloorOk.rat_f (h : FloorOk W H D K O) {c : Int} (h0 : 0 ≤ c) (h1 : c < W * H * D) : taquinref07_At.f W H D K O c = some (c % W, c / W % H, c / (W * H)) := by
 have hw := h.w1; have hh := h.h1; have hs := h.sz; have hwh := h.wh
 unfold taquinref07_At.f
 rw [h.ris_f, decide_eq_true ⟨h0, h1⟩]; have h2 : 0 ≤ c / W := Int.ediv_nonneg h0 (by omega); have h3 : c / W ≤ c := Int.ediv_le_self W h0; simp only [Option.bind_some, if_true]; rw [if_neg (by omega), if_neg (by omega), tdiv_wrap h0 (by omega) hw, tdiv_wrap h2 (by omega) hh, Int.tmod_eq_emod_of_nonneg h0, Int.tmod_eq_emod_of_nonneg h2, Int.ediv_ediv_of_nonneg (by omega)]
theorem FloorOk.rcell_f (h : FloorOk W H D K O) {x y z : Int} : taquinref07_Cell.f W H D K O x y z = some (cellZ W H D x y z) := by
 have hw := h.w1; have hh := h.h1; have hd := h.d1; have hs := h.sz; have hw2 := h.w2; have hh2 := h.h2; have hd2 := h.d2
 unfold taquinref07_Cell.f cellZ
 by_cases c1 : x < 0
 ·rw [if_pos c1, if_pos (by omega)]
 by_cases c2 : x ≥ W
 ·rw [if_neg c1, if_pos c2, if_pos (by omega)]
 by_cases c3 : y < 0
 ·rw [if_neg c1, if_neg c2, if_pos c3, if_pos (by omega)]
 by_cases c4 : y ≥ H
 ·rw [if_neg c1, if_neg c2, if_neg c3, if_pos c4, if_pos (by omega)]
 by_cases c5 : z < 0
 ·rw [if_neg c1, if_neg c2, if_neg c3, if_neg c4, if_pos c5, if_pos (by omega)]
 by_cases c6 : z ≥ D
 ·rw [if_neg c1, if_neg c2, if_neg c3, if_neg c4, if_neg c5, if_pos c6, if_pos (by omega)]
 rw [if_neg c1, if_neg c2, if_neg c3, if_neg c4, if_neg c5, if_neg c6, if_neg (by omega)]; obtain ⟨p1, p2, p3, p4⟩ := place_le (W := W) (H := H) (D := D) (x := x) (y := y) (z := z) (by omega) (by omega) (by omega) (by omega) (by omega) (by omega); have hwh := h.wh; have p5 : H * D ≤ 4096 * 4 := Int.mul_le_mul hh2 hd2 (by omega) (by omega); rw [wrap_small (x := z * H) (by omega) (by omega), wrap_small (x := z * H + y) (by omega) (by omega), wrap_small (x := (z * H + y) * W) (by omega) (by omega), wrap_small (by omega) (by omega)]
theorem FloorOk.rbeside_f (h : FloorOk W H D K O) (c d : Int) : taquinref07_Beside.f W H D K O c d = some (besZ W H D c d) := by
 have hw2 := h.w2; have hh2 := h.h2; have hd2 := h.d2
 unfold taquinref07_Beside.f besZ
 rw [h.ris_f]; simp only [Option.bind_some]
 by_cases hc : 0 ≤ c ∧ c < W * H * D
 ·rw [decide_eq_true hc, if_pos rfl, h.rat_f hc.1 hc.2]; simp only [Option.bind_some]; obtain ⟨p1, p2, p3⟩ := h.place hc.1 hc.2
  by_cases e0 : d = 0
  ·subst e0; rw [if_pos rfl, if_pos ⟨hc.1, hc.2, by omega, by omega⟩, wrap_small (by omega) (by omega), h.rcell_f]
   simp [sx, sy, P.sz]
  by_cases e1 : d = 1
  ·subst e1; rw [if_neg e0, if_pos rfl, if_pos ⟨hc.1, hc.2, by omega, by omega⟩, wrap_small (by omega) (by omega), h.rcell_f]
   simp [sx, sy, P.sz]
  by_cases e2 : d = 2
  ·subst e2; rw [if_neg e0, if_neg e1, if_pos rfl, if_pos ⟨hc.1, hc.2, by omega, by omega⟩, wrap_small (by omega) (by omega), h.rcell_f]
   simp [sx, sy, P.sz, Int.sub_eq_add_neg]
  by_cases e3 : d = 3
  ·subst e3; rw [if_neg e0, if_neg e1, if_neg e2, if_pos rfl, if_pos ⟨hc.1, hc.2, by omega, by omega⟩, wrap_small (by omega) (by omega), h.rcell_f]
   simp [sx, sy, P.sz, Int.sub_eq_add_neg]
  by_cases e4 : d = 4
  ·subst e4; rw [if_neg e0, if_neg e1, if_neg e2, if_neg e3, if_pos rfl, if_pos ⟨hc.1, hc.2, by omega, by omega⟩, wrap_small (by omega) (by omega), h.rcell_f]
   simp [sx, sy, P.sz]
  by_cases e5 : d = 5
  ·subst e5; rw [if_neg e0, if_neg e1, if_neg e2, if_neg e3, if_neg e4, if_pos rfl, if_pos ⟨hc.1, hc.2, by omega, by omega⟩, wrap_small (by omega) (by omega), h.rcell_f]
   simp [sx, sy, P.sz, Int.sub_eq_add_neg]
  rw [if_neg e0, if_neg e1, if_neg e2, if_neg e3, if_neg e4, if_neg e5, if_neg (by omega)]
 ·rw [decide_eq_false hc, if_neg (by simp), if_neg (by omega)]
theorem FloorOk.rnext_f (h : FloorOk W H D K O) (c d : Int) (k : Nat) : taquinref07_Next.f (k + 1) W H D K O c d = some (nx W H D K O c d) := by
 unfold taquinref07_Next.f nx
 rw [h.rbeside_f]; simp only [Option.bind_some]
 by_cases hb : besZ W H D c d < 0
 ·rw [if_pos hb, if_pos hb]
 ·rw [if_neg hb, if_neg hb]; obtain ⟨c0, c1, d0, d1, b1⟩ := h.bes_lt (c := c) (d := d) (by omega); have hk := h.kl; have ho := h.ol
  have hw : IntKind.u64.wrap d = d := by
   rw [IntKind.wrap_u64]
   omega
  rw [if_pos c0, if_pos (by omega)]
  by_cases k1 : rd K c = 0
  ·rw [if_pos k1, if_pos (by omega)]; simp only [taquinref07_Next.j0, if_true]
  ·rw [if_neg k1, if_pos (by omega), if_pos (by omega)]
   by_cases k2 : rd K (besZ W H D c d) = 0
   ·rw [if_pos k2, if_pos (by omega)]; simp only [taquinref07_Next.j0, if_true]
   ·rw [if_neg k2, if_pos (by omega), hw, if_pos d0]; simp only [taquinref07_Next.j0]
    by_cases k3 : (Go.bits .and .i64 (shr .i64 (rd O c) d) 1 == 0) = true
    ·rw [if_pos k3, if_pos (.inr (.inr k3))]
    ·have hno : ¬ (rd K c = 0 ∨ rd K (besZ W H D c d) = 0 ∨ (Go.bits .and .i64 (shr .i64 (rd O c) d) 1 == 0) = true) := by
      rintro (e | e | e)
      ·exact k1 e
      ·exact k2 e
      ·exact k3 e
     rw [if_neg k3, if_neg hno]
     by_cases e4 : d ≥ 4
     ·rw [if_pos e4, if_pos c0, if_pos (by omega)]
      by_cases k4 : rd K c = 6
      ·rw [if_pos k4, if_pos (by omega), if_pos (by omega)]
       by_cases k5 : rd K (besZ W H D c d) = 6
       ·rw [if_pos k5, if_neg (by simp [k4, k5])]
       ·rw [if_neg k5, if_pos ⟨by omega, .inr k5⟩]
      ·rw [if_neg k4, if_pos ⟨by omega, .inl k4⟩]
     ·rw [if_neg e4, if_neg (by omega)]
def getsFrom (W H D : Int) (K O : List Int) (a b : Int) (i : Nat) : Bool := (List.range 6).any fun d => decide (i ≤ d) && decide (nx W H D K O a d = (b, true))
theorem range_split (p : Nat → Bool) (i : Nat) (hi : i < 6) : ((List.range 6).any fun d => decide (i ≤ d) && p d) = (p i || (List.range 6).any fun d => decide (i + 1 ≤ d) && p d) := by
 rw [Bool.eq_iff_iff]; simp only [List.any_eq_true, List.mem_range, Bool.or_eq_true, Bool.and_eq_true, decide_eq_true_eq]
 constructor
 ·rintro ⟨d, h1, h2, h3⟩
  by_cases e : d = i
  ·subst e; exact .inl h3
  ·exact .inr ⟨d, h1, by omega, h3⟩
 ·rintro (h | ⟨d, h1, h2, h3⟩)
  ·exact ⟨i, hi, Nat.le_refl _, h⟩
  ·exact ⟨d, h1, by omega, h3⟩
theorem FloorOk.gets_l0 (h : FloorOk W H D K O) (a b : Int) : ∀ (m k i : Nat), i + m = 6 → m + 1 < k → taquinref25_Gets.l0 k a b (i : Int) W H D K O = some (getsFrom W H D K O a b i)
 | 0, 0, _, _, h => by omega
 | 0, 1, _, _, h => by omega
 | 0, k + 2, i, hi, _ => by
  simp only [taquinref25_Gets.l0]; rw [if_neg (by omega)]
  congr 1
  unfold getsFrom
  rw [eq_comm, List.any_eq_false]; intro d hd; rw [List.mem_range] at hd; simp only [Bool.and_eq_true, decide_eq_true_eq, not_and]
  omega
 | m + 1, 0, _, _, h => by omega
 | m + 1, 1, _, _, h => by omega
 | m + 1, k + 2, i, hi, hk => by
  have ih := h.gets_l0 a b m (k + 1) (i + 1) (by omega) (by omega); have hs := range_split (fun d => decide (nx W H D K O a d = (b, true))) i (by omega); have e : getsFrom W H D K O a b i = (decide (nx W H D K O a i = (b, true)) || getsFrom W H D K O a b (i + 1)) := hs; rw [e]; rw [taquinref25_Gets.l0]; rw [if_pos (by omega), h.rnext_f, Option.bind_some, wrap_nat (by omega)]
  by_cases c1 : (nx W H D K O a i).2 = true
  ·rw [if_pos c1]
   by_cases c2 : (nx W H D K O a i).1 = b
   ·rw [if_pos c2, decide_eq_true (Prod.ext c2 c1), Bool.true_or]
   ·rw [if_neg c2, ih, decide_eq_false (fun e => c2 (by rw [e])), Bool.false_or]
  ·rw [if_neg c1, ih, decide_eq_false (fun e => c1 (by rw [e])), Bool.false_or]
theorem FloorOk.gets_f (h : FloorOk W H D K O) (a b : Int) (k : Nat) (hk : 8 ≤ k) : taquinref25_Gets.f k W H D K O a b = some (gets W H D K O a b) := by
 unfold taquinref25_Gets.f
 rw [show (0 : Int) = ((0 : Nat) : Int) from rfl, h.gets_l0 a b 6 k 0 (by omega) (by omega)]
 unfold getsFrom gets
 simp
end
end Go.Proofs.Ytogmjilaiopjmaa.P
end
section
namespace Go.Proofs.Ytogmjilaiopjmaa.P
open Go.RowKit Go.Proofs.YtogmjilaiopjmaaW.PrintWords Go.Proofs.YtogmjilaiopjmaaW.PrintLast Go.Proofs.YtogmjilaiopjmaaW.PrintMore
def refB (n k x : Nat) : Bool :=
 decide (taquinref25_Unrank.f 200 (n : Int) (k : Int) (x : Int) = some (unrL n k x, (unrT n k x : Int), true)) &&
 (decide (taquinref25_Rank.f 200 (unrL n k x) (unrT n k x : Int) = some (x : Int)) && decide (taquinref25_Shelves.f 200 (unrL n k x) (unrT n k x : Int) = some (k : Int)))
def refN (n : Nat) : Bool := (List.range n).all fun k => decide (taquinref25_Count.f 200 (n : Int) ((k + 1 : Nat) : Int) = some (cntN n (k + 1) : Int)) && (List.range (cntN n (k + 1))).all fun x => refB n (k + 1) x
set_option maxRecDepth 100000 in
theorem ref1 : refN 1 = true := by decide +kernel
set_option maxRecDepth 100000 in
theorem ref2 : refN 2 = true := by decide +kernel
set_option maxRecDepth 100000 in
theorem ref3 : refN 3 = true := by decide +kernel
set_option maxRecDepth 100000 in
theorem ref4 : refN 4 = true := by decide +kernel
set_option maxRecDepth 100000 in
theorem ref5 : refN 5 = true := by decide +kernel
set_option maxRecDepth 100000 in
theorem ref6 : refN 6 = true := by decide +kernel
set_option maxRecDepth 100000 in
theorem ref7 : refN 7 = true := by decide +kernel
set_option maxRecDepth 100000 in
theorem ref8 : refN 8 = true := by decide +kernel
set_option maxRecDepth 100000 in
theorem ref9 : refN 9 = true := by decide +kernel
end Go.Proofs.Ytogmjilaiopjmaa.P
end
section
namespace Go.Proofs.Ytogmjilaiopjmaa.P
open Go.RowKit Go.Proofs.YtogmjilaiopjmaaW.PrintWords Go.Proofs.YtogmjilaiopjmaaW.PrintLast Go.Proofs.YtogmjilaiopjmaaW.PrintMore
theorem refN_all {n : Nat} (h1 : 1 ≤ n) (h9 : n ≤ 9) : refN n = true := by
 rcases (by omega : n = 1 ∨ n = 2 ∨ n = 3 ∨ n = 4 ∨ n = 5 ∨ n = 6 ∨ n = 7 ∨ n = 8 ∨ n = 9) with rfl | rfl | rfl | rfl | rfl | rfl | rfl | rfl | rfl
 ·exact ref1
 ·exact ref2
 ·exact ref3
 ·exact ref4
 ·exact ref5
 ·exact ref6
 ·exact ref7
 ·exact ref8
 ·exact ref9
theorem ref_count {n k : Nat} (h9 : n ≤ 9) (hk : 1 ≤ k) (hk2 : k ≤ n) (K : Nat) (hK : 200 ≤ K) : taquinref25_Count.f K (n : Int) (k : Int) = some (cntN n k : Int) := by
 have h := refN_all (n := n) (by omega) h9
 unfold refN at h
 rw [List.all_eq_true] at h; have h2 := h (k - 1) (List.mem_range.2 (by omega)); rw [Bool.and_eq_true] at h2; have h3 := of_decide_eq_true h2.1; rw [show k - 1 + 1 = k by omega] at h3; exact at_rounds (g := fun K => taquinref25_Count.f K (n : Int) (k : Int)) (taquinref25_Count.mono _ _) hK h3
section
variable {n k : Nat} {l : List Bool} {t x : Nat}
theorem Lay.ref (h : Lay n k l t x) (h9 : n ≤ 9) : refB n k x = true := by
 have h1 := h.k1; have h2 := h.kn; have h3 := refN_all (n := n) (by omega) h9
 unfold refN at h3
 rw [List.all_eq_true] at h3; have h4 := h3 (k - 1) (List.mem_range.2 (by omega)); rw [Bool.and_eq_true, show k - 1 + 1 = k by omega, List.all_eq_true] at h4; exact h4.2 x (List.mem_range.2 h.x_lt)
theorem Lay.refU (h : Lay n k l t x) (h9 : n ≤ 9) (K : Nat) (hK : 200 ≤ K) : taquinref25_Unrank.f K (n : Int) (k : Int) (x : Int) = some (l, (t : Int), true) := by
 have hr := h.ref h9; obtain ⟨u1, u2⟩ := h.unr
 unfold refB at hr
 rw [Bool.and_eq_true, u1, u2] at hr; exact at_rounds (g := fun K => taquinref25_Unrank.f K (n : Int) (k : Int) (x : Int)) (taquinref25_Unrank.mono _ _ _) hK (of_decide_eq_true hr.1)
theorem Lay.refR (h : Lay n k l t x) (h9 : n ≤ 9) (K : Nat) (hK : 200 ≤ K) : taquinref25_Rank.f K l (t : Int) = some (x : Int) := by
 have hr := h.ref h9; obtain ⟨u1, u2⟩ := h.unr
 unfold refB at hr
 rw [Bool.and_eq_true, Bool.and_eq_true, u1, u2] at hr; exact at_rounds (g := fun K => taquinref25_Rank.f K l (t : Int)) (taquinref25_Rank.mono _ _) hK (of_decide_eq_true hr.2.1)
end
theorem refDo {l : List Bool} {t i j : Nat} (hl : l.length ≤ 1000000) (hi : i < l.length) (hj : j < l.length) (h1 : l.getD i false = true) (h2 : l.getD j false = false) (K : Nat) : taquinref25_Do.f (K + 2) l (t : Int) (i : Int) (j : Int) = some (moveL l i j, ((moveT t i j : Nat) : Int), 0) := by
 unfold taquinref25_Do.f
 rw [if_neg (by omega), if_neg (by omega), if_neg (by omega), decide_eq_false (by omega), taquinref25_Do.j0, if_neg (by simp), if_pos (by omega), if_pos (by omega)]
 have e1 : rdOf false l (i : Int) = true := by unfold rdOf; rw [Int.toNat_natCast]; exact h1
 have e2 : rdOf false l (j : Int) = false := by unfold rdOf; rw [Int.toNat_natCast]; exact h2
 rw [e1, if_pos rfl, if_pos (by omega), if_pos (by omega), e2, taquinref25_Do.j1, if_neg (by simp), Option.bind_some, if_pos (by simp; omega), Option.bind_some, List.nil_append, if_pos (by omega), if_pos (by omega), if_pos (by omega), if_pos (by omega), Option.bind_some, Int.toNat_natCast, Int.toNat_natCast]
 unfold moveL moveT
 by_cases e : t = i
 ·rw [if_pos (by omega), if_pos e]
 ·rw [if_neg (by omega), if_neg e]
section
variable {W H D : Int} {K O r : List Int} {l : List Bool} {full : Bool}
def shF (W H D : Int) (K O r : List Int) (l : List Bool) (full : Bool) (i k : Nat) : Option S51 :=
 if l.getD i false = full ∧ l.getD k false ≠ full ∧ gets W H D K O (r.getD i 0) (r.getD k 0) = true then some ⟨(i : Int), (k : Int)⟩ else none
def shRow (W H D : Int) (K O r : List Int) (l : List Bool) (full : Bool) (i j : Nat) : List S51 := (List.range j).filterMap (shF W H D K O r l full i)
def shTo (W H D : Int) (K O r : List Int) (l : List Bool) (full : Bool) (i : Nat) : List S51 := (List.range i).flatMap fun a => shRow W H D K O r l full a r.length
theorem shRow_succ (i j : Nat) : shRow W H D K O r l full i (j + 1) = shRow W H D K O r l full i j ++ (shF W H D K O r l full i j).toList := by
 unfold shRow
 rw [List.range_succ, List.filterMap_append]
 congr 1
theorem shTo_succ (i : Nat) : shTo W H D K O r l full (i + 1) = shTo W H D K O r l full i ++ shRow W H D K O r l full i r.length := by
 unfold shTo
 rw [List.range_succ, List.flatMap_append]
 simp
theorem shTo_all : shTo W H D K O r l full r.length = shiftsN W H D K O r l full := rfl
theorem shRow_len (i j : Nat) : (shRow W H D K O r l full i j).length ≤ j := by
 unfold shRow
 exact Nat.le_trans (List.length_filterMap_le _ _) (by rw [List.length_range]; exact Nat.le_refl _)
theorem shTo_len (i : Nat) : (shTo W H D K O r l full i).length ≤ i * r.length := by
 unfold shTo
 exact Nat.le_trans (flatMap_len _ r.length (fun a => shRow_len a _) _) (by rw [List.length_range]; exact Nat.le_refl _)
theorem between_l1 (hf : FloorOk W H D K O) (hlr : l.length = r.length) (hr : r.length ≤ 100) (t : Int) (i : Nat) (hi : i < r.length) (A : List S51) (hA : A.length ≤ 10000) :
  ∀ (m K2 j : Nat), j + m = r.length → 2 * m + 12 ≤ K2 → ∃ K3, K2 = K3 + 2 * m + 2 ∧
   taquinref25_between.l1 K2 r full (A ++ shRow W H D K O r l full i j) (i : Int) (j : Int) W H D K O l t = taquinref25_between.l0 K3 r full (A ++ shRow W H D K O r l full i r.length) ((i + 1 : Nat) : Int) W H D K O l t
 | 0, K2, j, hj, hK => by
  obtain ⟨K3, rfl⟩ : ∃ z, K2 = z + 2 := ⟨K2 - 2, by omega⟩; refine ⟨K3, rfl, ?_⟩; rw [taquinref25_between.l1, if_neg (by omega), taquinref25_between.j3, if_neg (by simp), wrap_nat (by omega), show j = r.length by omega]
 | m + 1, K2, j, hj, hK => by
  obtain ⟨K2, rfl⟩ : ∃ z, K2 = z + 2 := ⟨K2 - 2, by omega⟩; obtain ⟨K3, e, h⟩ := between_l1 hf hlr hr t i hi A hA m K2 (j + 1) (by omega) (by omega); refine ⟨K3, by omega, ?_⟩; have hrow := shRow_len (W := W) (H := H) (D := D) (K := K) (O := O) (r := r) (l := l) (full := full) i j; rw [shRow_succ] at h
  have e1 : rdOf false l (i : Int) = l.getD i false := by unfold rdOf; rw [Int.toNat_natCast]
  have e2 : rdOf false l (j : Int) = l.getD j false := by unfold rdOf; rw [Int.toNat_natCast]
  have e3 : rd r (i : Int) = r.getD i 0 := by unfold rd; rw [Int.toNat_natCast]
  have e4 : rd r (j : Int) = r.getD j 0 := by unfold rd; rw [Int.toNat_natCast]
  rw [taquinref25_between.l1, if_pos (by omega), decide_eq_true (by omega), taquinref25_between.j3, if_pos rfl, if_pos (by omega), if_pos (by omega), e1, e2, e3, e4]
  by_cases c1 : l.getD i false = full
  ·rw [if_pos (by rw [beq_iff_eq]; exact c1), if_pos (by omega), if_pos (by omega)]
   by_cases c2 : l.getD j false ≠ full
   ·rw [if_pos (bne_iff_ne.2 c2), if_pos (by omega), if_pos (by omega), hf.gets_f _ _ _ (by omega), Option.bind_some]
    by_cases c3 : gets W H D K O (r.getD i 0) (r.getD j 0) = true
    ·have e5 : shF W H D K O r l full i j = some ⟨(i : Int), (j : Int)⟩ := by unfold shF; rw [if_pos ⟨c1, c2, c3⟩]
     rw [if_pos c3, if_pos (by rw [List.length_append]; omega), wrap_nat (by omega)]; rw [e5] at h; rw [List.append_assoc]; exact h
    ·have e5 : shF W H D K O r l full i j = none := by unfold shF; rw [if_neg (fun e => c3 e.2.2)]
     rw [if_neg c3, wrap_nat (by omega)]; rw [e5] at h
     simpa using h
   ·have e5 : shF W H D K O r l full i j = none := by unfold shF; rw [if_neg (fun e => c2 e.2.1)]
    rw [if_neg (by rw [bne_iff_ne]; exact c2), wrap_nat (by omega)]; rw [e5] at h
    simpa using h
  ·have e5 : shF W H D K O r l full i j = none := by unfold shF; rw [if_neg (fun e => c1 e.1)]
   rw [if_neg (by rw [beq_iff_eq]; exact c1), wrap_nat (by omega)]; rw [e5] at h
   simpa using h
theorem between_l0 (hf : FloorOk W H D K O) (hlr : l.length = r.length) (hr : r.length ≤ 9) (t : Int) {C : Nat} (hC : C = 40) :
  ∀ (m K2 i : Nat), i + m = r.length → m * C + 20 ≤ K2 → taquinref25_between.l0 K2 r full (shTo W H D K O r l full i) (i : Int) W H D K O l t = some (shiftsN W H D K O r l full)
 | 0, K2, i, hi, hK => by
  obtain ⟨K2, rfl⟩ : ∃ z, K2 = z + 2 := ⟨K2 - 2, by omega⟩; rw [taquinref25_between.l0, if_neg (by omega), taquinref25_between.j1, if_neg (by simp), show i = r.length by omega, shTo_all]
 | m + 1, K2, i, hi, hK => by
  rw [Nat.add_mul, Nat.one_mul] at hK; obtain ⟨K2, rfl⟩ : ∃ z, K2 = z + 2 := ⟨K2 - 2, by omega⟩; have hA := shTo_len (W := W) (H := H) (D := D) (K := K) (O := O) (r := r) (l := l) (full := full) i; have hA2 : i * r.length ≤ 9 * 9 := Nat.mul_le_mul (by omega) hr; obtain ⟨K3, e, h⟩ := between_l1 (full := full) hf hlr (by omega) t i (by omega) (shTo W H D K O r l full i) (by omega) r.length K2 0 (by omega) (by omega); rw [taquinref25_between.l0, if_pos (by omega), decide_eq_true (by omega), taquinref25_between.j1, if_pos rfl]; have e0 : shRow W H D K O r l full i 0 = [] := rfl; rw [e0, List.append_nil] at h; rw [show (0 : Int) = ((0 : Nat) : Int) from rfl, h, ← shTo_succ]; exact between_l0 hf hlr hr t hC m K3 (i + 1) (by omega) (by omega)
theorem between_f (hf : FloorOk W H D K O) (hlr : l.length = r.length) (hr : r.length ≤ 9) (t : Int) (K2 : Nat) (hK : 400 ≤ K2) : taquinref25_between.f K2 W H D K O r l t full = some (shiftsN W H D K O r l full) := by
 unfold taquinref25_between.f
 have hb : r.length * 40 ≤ 9 * 40 := Nat.mul_le_mul hr (Nat.le_refl _); have h := between_l0 (full := full) hf hlr hr t (C := 40) rfl r.length K2 0 (by omega) (by omega); exact h
theorem refShifts_f (hf : FloorOk W H D K O) (hlr : l.length = r.length) (hr : r.length ≤ 9) (t : Int) (K2 : Nat) (hK : 400 ≤ K2) : taquinref25_Shifts.f K2 W H D K O r l t = some (shiftsN W H D K O r l true) := by
 unfold taquinref25_Shifts.f
 rw [between_f hf hlr hr t K2 hK, Option.bind_some]
theorem refBacks_f (hf : FloorOk W H D K O) (hlr : l.length = r.length) (hr : r.length ≤ 9) (t : Int) (K2 : Nat) (hK : 400 ≤ K2) : taquinref25_Backs.f K2 W H D K O r l t = some (shiftsN W H D K O r l false) := by
 unfold taquinref25_Backs.f
 rw [between_f hf hlr hr t K2 hK, Option.bind_some]
end
end Go.Proofs.Ytogmjilaiopjmaa.P
end
