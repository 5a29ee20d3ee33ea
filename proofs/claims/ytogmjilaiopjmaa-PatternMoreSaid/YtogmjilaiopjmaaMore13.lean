/- Lemmas for the row of this claim: contracts of the functions that it reaches, and plain laws about numbers and lists. -/
import Derived.Test.YtogmjilaiopjmaaMore12
import Derived.Shelf.SlSortCmp.NoneTotal
set_option linter.unusedVariables false
set_option linter.unusedSimpArgs false
section
namespace Go.Proofs.Ytogmjilaiopjmaa.P
open Go.RowKit Go.Proofs.YtogmjilaiopjmaaW.PrintWords Go.Proofs.YtogmjilaiopjmaaW.PrintLast Go.Proofs.YtogmjilaiopjmaaW.PrintMore
def Small (l : List S51) : Prop := ∀ s ∈ l, 0 ≤ s.f0 ∧ s.f0 < 32 ∧ 0 ≤ s.f1 ∧ s.f1 < 32
def Cells51 (cur : Array Value) (l : List S51) : Prop := ∀ j, (h : j < l.length) → cur[j * 2]? = some (.int .i64 (l[j]).f0) ∧ cur[j * 2 + 1]? = some (.int .i64 (l[j]).f1)
theorem R51_of {w : World} {base g cap : Nat} {cur : Array Value} {l : List S51} (hg : base ≤ g) (hb : w.heap[g]? = some (.cells cur 51 (0, 0))) (hc : cur.size = cap * 2) (hl : l.length ≤ cap) (hm : cap ≤ maxLen) (hcell : Cells51 cur l) : Kd.R k51 51 w base (fun _ => True) (.slice (some ⟨g, 0, none⟩) l.length cap) l := by
 refine ⟨fun _ _ => trivial, cur.toList.take (l.length * 2), ⟨?_, .inr ⟨g, cap, cur, rfl, hg, hb, hl, hm, hc, rfl⟩⟩, ?_, ?_⟩
 ·have h2 : k51.sz = 2 := rfl; rw [List.length_take, h2, Nat.min_eq_left]; have := Nat.mul_le_mul_right 2 hl
  simpa [hc] using this
 ·have h2 : k51.sz = 2 := rfl; rw [List.length_take, h2, Nat.min_eq_left]; have := Nat.mul_le_mul_right 2 hl
  simpa [hc] using this
 ·intro j p hp; obtain ⟨hj, rfl⟩ := List.getElem?_eq_some_iff.1 hp; have hsz : k51.sz = 2 := rfl; rw [hsz]
  have e : ((cur.toList.take (l.length * 2)).drop (j * 2)).take 2 = [.int .i64 (l[j]).f0, .int .i64 (l[j]).f1] := by
   obtain ⟨h0, h1⟩ := hcell j hj
   apply List.ext_getElem?
   intro i; rw [List.getElem?_take]
   split
   ·rename_i hi
    rw [List.getElem?_drop, List.getElem?_take, if_pos (by omega), Array.getElem?_toList]
    rcases (by omega : i = 0 ∨ i = 1) with rfl | rfl
    ·simpa using h0
    ·simpa using h1
   ·rename_i hi
    rw [List.getElem?_eq_none (by simp; omega)]
  rw [e]; exact k51_mkM ..
theorem R51_open {w : World} {base : Nat} {v : Value} {l : List S51} (h : Kd.R k51 51 w base (fun _ => True) v l) : (v = .slice none 0 0 ∧ l = []) ∨ ∃ g cap cur, v = .slice (some ⟨g, 0, none⟩) l.length cap ∧ base ≤ g ∧ w.heap[g]? = some (.cells cur 51 (0, 0)) ∧ cur.size = cap * 2 ∧ l.length ≤ cap ∧ cap ≤ maxLen ∧ Cells51 cur l := by
 obtain ⟨_, inner, ⟨hlen, ho⟩, hr1, hr2⟩ := h
 rcases ho with ⟨rfl, hn⟩ | ⟨g, cap, cur, rfl, hg, hb, hl, hm, hc, ht⟩
 ·exact .inl ⟨rfl, List.eq_nil_of_length_eq_zero hn⟩
 ·refine .inr ⟨g, cap, cur, rfl, hg, hb, hc, hl, hm, fun j hj => ?_⟩; have hsz : k51.sz = 2 := rfl; have hM := hr2 j l[j] (List.getElem?_eq_getElem hj); have hE := k51_openM hM; rw [hsz] at hE ht
  have key : ∀ i u, i < 2 → ([.int .i64 (l[j]).f0, .int .i64 (l[j]).f1] : List Value)[i]? = some u → cur[j * 2 + i]? = some u := by
   intro i u hi hu; rw [← hE, List.getElem?_take, if_pos hi, List.getElem?_drop, ← ht, List.getElem?_take, if_pos (by omega), Array.getElem?_toList] at hu; exact hu
  exact ⟨by simpa using key 0 _ (by omega) rfl, key 1 _ (by omega) rfl⟩
def toP (s : S51) : Fin 32 × Fin 32 := (Fin.ofNat 32 s.f0.toNat, Fin.ofNat 32 s.f1.toNat)
def ofP (p : Fin 32 × Fin 32) : S51 := ⟨(p.1.val : Int), (p.2.val : Int)⟩
theorem ofP_toP {s : S51} (h : 0 ≤ s.f0 ∧ s.f0 < 32 ∧ 0 ≤ s.f1 ∧ s.f1 < 32) : ofP (toP s) = s := by
 obtain ⟨a, b⟩ := s
 simp only at h
 simp only [ofP, toP, Fin.ofNat]; have e1 : a.toNat % 32 = a.toNat := Nat.mod_eq_of_lt (by omega); have e2 : b.toNat % 32 = b.toNat := Nat.mod_eq_of_lt (by omega); rw [e1, e2]
 congr 1 <;> omega
theorem encP_ofP (p : Fin 32 × Fin 32) : encP p = [.int .i64 (ofP p).f0, .int .i64 (ofP p).f1] := rfl
theorem cmpP_lt (x y : Fin 32 × Fin 32) : ltOf cmpP x y = true ↔ ltS (ofP x) (ofP y) := by
 obtain ⟨⟨a, ha⟩, ⟨b, hb⟩⟩ := x; obtain ⟨⟨c, hc⟩, ⟨d, hd⟩⟩ := y; simp only [ltOf, cmpP, ltS, ofP, Fin.mk.injEq, ne_eq, decide_eq_true_eq]
 by_cases h : a = c
 ·subst h
  simp
  omega
 ·simp only [h, not_false_eq_true, if_true]
  omega
theorem cmpP_not (x y : Fin 32 × Fin 32) : ltOf cmpP x y = false ↔ ¬ ltS (ofP x) (ofP y) := by
 rw [← cmpP_lt]
 simp
theorem swoP : Sort.SWO (ltOf cmpP) where
 irrefl x := by rw [cmpP_not]; exact ltS_irrefl _
 trans x y z h1 h2 := by rw [cmpP_lt] at *; exact ltS_trans h1 h2
 ntrans x y z h1 h2 := by rw [cmpP_not] at *; unfold ltS at *; omega
theorem cmpLaysP (blk off size : Nat) (w : World) : CmpLays Try.prog 86 #[] encP 2 cmpP blk off size w := by
 intro m os dk hdk x y; have h := shifts_cmp x.1.val x.2.val y.1.val y.2.val (cmpP x y) (sortWorldK encP 2 w blk off m dk os) x.1.2 x.2.2 y.1.2 y.2.2 (by unfold cmpP; simp [Fin.ext_iff]); exact h
theorem getFlat {d : Array (Fin 32 × Fin 32)} {t : Nat} (h : t < d.size * 2) : (Go.Sort.flatK encP 2 d)[t]! = (encP d[t / 2]!)[t % 2]! := Go.Sort.get_flatK encP 2 d t h
theorem holdsP {w : World} {g : Nat} {cur : Array Value} {l : List S51} (hb : w.heap[g]? = some (.cells cur 51 (0, 0))) (hcell : Cells51 cur l) (hs : Small l) : Go.Sort.HoldsK encP 2 w g 0 (l.map toP).toArray := by
 intro t ht; rw [Go.Sort.size_flatK] at ht
 have hsz : (l.map toP).toArray.size = l.length := by simp
 have hj : t / 2 < l.length := by omega
 refine ⟨?_, blk_frozen hb _⟩; rw [getFlat ht, blk_cell hb, Nat.zero_add]; obtain ⟨j, i, rfl, hi⟩ : ∃ j i, t = j * 2 + i ∧ i < 2 := ⟨t / 2, t % 2, by omega, by omega⟩
 have q1 : (j * 2 + i) / 2 = j := by omega
 have q2 : (j * 2 + i) % 2 = i := by omega
 rw [q1] at hj ⊢; rw [q2]
 have e1 : (l.map toP).toArray[j]! = toP l[j] := by simp [hj]
 rw [e1, encP_ofP, ofP_toP (hs _ (List.getElem_mem hj))]; obtain ⟨h0, h1⟩ := hcell j hj
 rcases (by omega : i = 0 ∨ i = 1) with rfl | rfl
 ·simpa using h0
 ·simpa using h1
set_option maxHeartbeats 1000000 in
theorem sort_shifts (v : Value) (l : List S51) (w : World) (base : Nat) (A : Option Addr) (c : Nat) (hv : v = .slice A l.length c) (hR : Kd.R k51 51 w base (fun _ => True) v l) (hs : Small l) (hb : base ≤ w.heap.size) (hl : l.length ≤ 1000000) :
  Calls Try.prog 85 #[v, .func (.func 86) #[] #[]] w fun e w' => e = .returned (.tuple #[]) ∧ ∃ q : List S51, q.Perm l ∧ q.Pairwise (fun a b => ¬ ltS b a) ∧ Kd.R k51 51 w' base (fun _ => True) v q ∧ w.grownBy w' v.ownBlock := by
 rcases R51_open hR with ⟨rfl, rfl⟩ | ⟨g, cap, cur, rfl, hg, hheap, hsize, hcap, hmax, hcell⟩
 ·have hcon := AnyF.slices_SortFunc_none (P := Try.prog) { Try.sortS with } none 0 (.func (.func 86) #[] #[]) w; refine (show Calls Try.prog 85 _ _ _ from hcon).mono ?_; rintro e w' ⟨rfl, rfl⟩; exact ⟨rfl, [], List.Perm.refl _, List.Pairwise.nil, hR, ⟨rfl, rfl, rfl, Nat.le_refl _, fun _ _ _ => rfl⟩⟩
 ·have eg : ∀ args w, (callFunc 86 args).run Try.prog w = .ok (.enter 86 args) w := enters_of Try.func86 (by kernel_rfl) rfl
  have hsz : (l.map toP).toArray.size = l.length := by simp
  have hlt := blk_lt hheap; have hcon := AnyQ.slices_SortFunc Try.sortS 2 Try.isAgg51 Try.sizeOf51 encP (fun _ => rfl) (fun x v hv => by simp [encP] at hv; rcases hv with rfl | rfl <;> rfl) cmpP swoP 86 #[] g 0 cap (l.map toP).toArray w eg (cmpLaysP g 0 _ w) (holdsP hheap hcell hs) hlt (by rw [hsz]; omega); rw [hsz] at hcon; refine (show Calls Try.prog 85 _ _ _ from hcon).mono ?_; rintro e w' ⟨rfl, d', n, os, hp, ho, rfl⟩
  have hd' : d'.size = l.length := by rw [hp.1, hsz]
  have hperm : d'.toList.Perm (l.map toP) := by
   have h := hp.2.2; rw [show d'.extract 0 l.length = d' by rw [← hd']; simp, show (l.map toP).toArray.extract 0 l.length = (l.map toP).toArray by simp [List.take_of_length_le]] at h
   simpa using h
  have hmap : (l.map toP).map ofP = l := by
   rw [List.map_map]; exact (List.map_congr_left (g := id) fun s hs' => ofP_toP (hs s hs')).trans (by simp)
  have hlq : (d'.toList.map ofP).length = l.length := by simp [hd']
  have hget : (sortWorldK encP 2 w g 0 n d' os).heap[g]? = some (.cells (Sort.putCells id 0 (Go.Sort.flatK encP 2 d') cur) 51 (0, 0)) := by
   unfold sortWorldK
   rw [Sort.heap_grow_old _ _ (by simpa [Go.Sort.putRowK] using hlt)]; simp only [Go.Sort.putRowK, Sort.putRow, Sort.mapBlock, Sort.heap_ahead, Array.getElem?_modify, if_true, hheap, Option.map_some, Sort.onCells]
  refine ⟨rfl, d'.toList.map ofP, hmap ▸ hperm.map ofP, ?_, ?_, ?_⟩
  ·rw [List.pairwise_map, List.pairwise_iff_getElem]; intro i j hi hj hij
   have hi' : i < d'.size := by simpa using hi
   have hj' : j < d'.size := by simpa using hj
   have h := ho i j (Nat.zero_le _) hij (by omega); rw [cmpP_not, getElem!_pos d' i hi', getElem!_pos d' j hj'] at h
   simpa using h
  ·rw [← hlq]; refine R51_of hg hget (by simp [Sort.putCells, hsize]) (by omega) hmax fun j hj => ?_
   have hj' : j < d'.size := by simpa using hj
   have hk : ∀ i, i < 2 → (Sort.putCells id 0 (Go.Sort.flatK encP 2 d') cur)[j * 2 + i]? = some (encP d'[j]!)[i]! := by
    intro i hi
    have hlt2 : j * 2 + i < cur.size := by omega
    simp only [Sort.putCells, Array.getElem?_mapIdx, Array.getElem?_eq_getElem hlt2, Option.map_some]; rw [if_pos ⟨Nat.zero_le _, by rw [Go.Sort.size_flatK]; omega⟩, Nat.sub_zero, getFlat (by omega), show (j * 2 + i) / 2 = j by omega, show (j * 2 + i) % 2 = i by omega]; rfl
   have e : (d'.toList.map ofP)[j] = ofP d'[j]! := by simp [hj']
   rw [e]; exact ⟨by simpa [encP_ofP] using hk 0 (by omega), by simpa [encP_ofP] using hk 1 (by omega)⟩
  ·refine ⟨rfl, rfl, rfl, ?_, fun k hk hne => ?_⟩
   ·simp [sortWorldK, Go.Sort.putRowK, Sort.size_grow]
   ·have hne' : g ≠ k := fun e => hne (by simp [Value.ownBlock, e])
    unfold sortWorldK
    rw [Sort.heap_grow_old _ _ (by simpa [Go.Sort.putRowK] using hk)]; simp only [Go.Sort.putRowK, Sort.putRow, Sort.mapBlock, Sort.heap_ahead, Array.getElem?_modify, if_neg hne']
theorem base_of {α : Type} {d : Kd α} {e : Nat} {w : World} {base : Nat} {ok : Nat → Prop} {v : Value} {xs : List α} (h : d.R e w base ok v xs) : ∀ k, v.ownBlock = some k → base ≤ k := by
 intro k hk
 rcases Kd.R_base2 h with h0 | ⟨k', h1, h2⟩
 ·rw [h0] at hk; cases hk
 ·rw [h1] at hk; injection hk with hk; omega
theorem R51_form {w : World} {base n c : Nat} {ok : Nat → Prop} {A : Option Addr} {q : List S51} (h : Kd.R k51 51 w base ok (.slice A n c) q) (hn : 0 < n) : ∃ g, A = some ⟨g, 0, none⟩ ∧ ∀ i, i < n → w.cell? ⟨g, i * 2, none⟩ = some (.int .i64 (rd_T51 q i).f0) ∧ w.cell? ⟨g, i * 2 + 1, none⟩ = some (.int .i64 (rd_T51 q i).f1) := by
 obtain ⟨hl, hc, hC⟩ := Kd.R_reads' h; obtain ⟨_, inner, ho, _⟩ := h
 rcases ho.2 with ⟨_, h0⟩ | ⟨g, cap, cur, e, hg, _⟩
 ·omega
 ·injection e with e1 e2 e3
  subst e1; refine ⟨g, rfl, fun i hi => ?_⟩; obtain ⟨ad, e, h0, h1⟩ := at_T51 hC (i : Int) (by omega) (by omega)
  injection e with e
  subst e; rw [Int.toNat_natCast, add_plain] at h0 h1; exact ⟨h0, h1⟩
theorem neighbours {q : List S51} (h : q.Pairwise ltS) {i : Nat} (hi : i + 1 < q.length) : ¬ ((rd_T51 q ((i + 1 : Nat) : Int)).f0 = (rd_T51 q (i : Int)).f0 ∧ (rd_T51 q ((i + 1 : Nat) : Int)).f1 = (rd_T51 q (i : Int)).f1) := by
 have h2 := List.pairwise_iff_getElem.1 h i (i + 1) (by omega) hi (by omega)
 unfold rd_T51
 rw [Int.toNat_natCast, Int.toNat_natCast, List.getD_eq_getElem?_getD, List.getD_eq_getElem?_getD, List.getElem?_eq_getElem hi, List.getElem?_eq_getElem (by omega)]; simp only [Option.getD_some]
 unfold ltS at h2
 omega
theorem small_shiftsR {W H D : Int} {K O r : List Int} {l : List Bool} {full : Bool} (hs : r.Pairwise (· < ·)) (hn : r.length ≤ 32) : Small (shiftsR W H D K O r l full r.length) := by
 intro s h; obtain ⟨i, hi, _, h⟩ := (mem_shiftsR hs (by omega) _).1 h; obtain ⟨d, _, h⟩ := (mem_shiftsI hs (by omega) 6).1 h; obtain ⟨k, hk, _, _, rfl⟩ := (mem_shiftD hs (by omega)).1 h; dsimp only
 omega
theorem shiftsI_succ {W H D : Int} {K O r : List Int} {l : List Bool} {full : Bool} (i d : Nat) : shiftsI W H D K O r l full i (d + 1) = shiftsI W H D K O r l full i d ++ shiftD W H D K O r l full i d := rfl
set_option maxHeartbeats 4000000 in
set_option maxRecDepth 100000 in
theorem shifts_walk (a0_0 : Int) (a0_1 : Int) (a0_2 : Int) (A0_3 : Option Addr) (c0_3 : Nat) (l0_3 : List Int) (A0_4 : Option Addr) (c0_4 : Nat) (l0_4 : List Int) (A1 : Option Addr) (c1 : Nat) (l1 : List Int) (A2_0 : Option Addr) (c2_0 : Nat) (l2_0 : List Bool) (a2_1 : Int) (a3 : Bool) (w : World) (hr0_3 : Kd.C (Kd.int .i64) w A0_3 l0_3.length l0_3) (hc0_3 : l0_3.length ≤ c0_3) (hr0_4 : Kd.C (Kd.int .i64) w A0_4 l0_4.length l0_4) (hc0_4 : l0_4.length ≤ c0_4) (hr1 : Kd.C (Kd.int .i64) w A1 l1.length l1) (hc1 : l1.length ≤ c1) (hr2_0 : Kd.C Kd.bool w A2_0 l2_0.length l2_0) (hc2_0 : l2_0.length ≤ c2_0) (hf : FloorOk a0_0 a0_1 a0_2 l0_3 l0_4) (hs : l1.Pairwise (· < ·)) (hl1 : l1.length ≤ 32) (hl2 : l1.length ≤ l2_0.length) (hl3 : l2_0.length ≤ 1000000) (hne : 0 < l1.length) :
  Calls Try.prog 65 #[.agg #[.int .i64 a0_0, .int .i64 a0_1, .int .i64 a0_2, .slice A0_3 l0_3.length c0_3, .slice A0_4 l0_4.length c0_4], .slice A1 l1.length c1, .agg #[.slice A2_0 l2_0.length c2_0, .int .i64 a2_1], .bool a3] w fun e w' => ∃ v0_ : Value, e = .returned (v0_) ∧ Kd.R k51 51 w' w.heap.size (fun _ => True) v0_ (shiftsN a0_0 a0_1 a0_2 l0_3 l0_4 l1 l2_0 a3) ∧ Below w.heap.size w w' := by
 have hu24 := Try.underlying24; have hu27 := Try.underlying27; have hu51 := Try.underlying51; have HB := ak (Below.refl w.heap.size w); have HR3 := ak hr0_3; have HC3 := ak hc0_3; have HR4 := ak hr0_4; have HC4 := ak hc0_4; have HR1 := ak hr1; have HC1 := ak hc1; have HR2 := ak hr2_0; have HC2 := ak hc2_0; have HF := ak hf; have HS := ak hs; have H1 := ak hl1; have H2 := ak hl2; have H3 := ak hl3; obtain ⟨ar, rfl, hcr⟩ := int_cells hr1 hne; obtain ⟨al, rfl, hcl⟩ := bool_cells hr2_0 (by omega); have HCR := ak hcr; have HCL := ak hcl; clear hr0_3 hc0_3 hr0_4 hc0_4 hr1 hc1 hr2_0 hc2_0 hf hs hl1 hl2 hl3 hne hcr hcl
 go_enter Try.func65, Try.ntmps65
 go_upto_region 3 with (first | ((with_reducible refine gate_dst (N := 4) rfl ?_); refine box_event ?hg (N := 4) ?hd (cs := #[.int .i64 a0_0, .int .i64 a0_1, .int .i64 a0_2, .slice A0_3 l0_3.length c0_3, .slice A0_4 l0_4.length c0_4]) (t := 24) ?hr ?_; (case hd => rfl); (case hg => rfl); (case hr => first | (go_simp; done) | (go_simp; rfl)); intro g4 hg w4 hbox hb; have GE4 := ak (show w.heap.size ≤ g4 by have := HB.1.size; omega); have n_HB := ak (below_step HB.1 hb); clear HB; have HB := n_HB; clear n_HB; have BK4 := ak hbox; clear hbox hb hg) | ((with_reducible refine gate_dst (N := 6) rfl ?_); refine box_event ?hg (N := 6) ?hd (cs := #[.slice (some al) l2_0.length c2_0, .int .i64 a2_1]) (t := 27) ?hr ?_; (case hd => rfl); (case hg => rfl); (case hr => first | (go_simp; done) | (go_simp; rfl)); intro g6 hg w6 hbox hb; have GE6 := ak (show w.heap.size ≤ g6 by have := HB.1.size; omega); have NE6_4 := ak (show g6 ≠ g4 by have := blk_lt BK4.1; omega); have n_BK4 := ak (blk_below BK4.1 hb); have n_HB := ak (below_step HB.1 hb); clear BK4; clear HB; have BK4 := n_BK4; have HB := n_HB; clear n_BK4 n_HB; have BK6 := ak hbox; clear hbox hb hg))
 go_loopg [9, 19] l1.length (fun kq v9 v19 w' => ∃ (i : Nat), v19 = .int .i64 (i : Int) ∧ Aside0 (kq + i = l1.length) ∧ Aside0 (Kd.R k51 51 w' w.heap.size (fun _ => True) v9 (shiftsR a0_0 a0_1 a0_2 l0_3 l0_4 l1 l2_0 a3 i)) ∧ Aside0 (w'.heap[g4]? = some (.cells #[.int .i64 a0_0, .int .i64 a0_1, .int .i64 a0_2, .slice A0_3 l0_3.length c0_3, .slice A0_4 l0_4.length c0_4] 24 (0, 0))) ∧ Aside0 (w'.heap[g6]? = some (.cells #[.slice (some al) l2_0.length c2_0, .int .i64 a2_1] 27 (0, 0))) ∧ Aside0 (Below w.heap.size w w'))
 case atStart => exact ⟨0, rfl, ⟨by omega⟩, ⟨Kd.R_nil _ _ _ _ _⟩, BK4, BK6, HB⟩
 case round =>
  clear BK4 BK6 HB; obtain ⟨i, rfl, HI, HO, BK4, BK6, HB⟩ := hrel
  by_cases hi : i < l1.length
  ·have y1 : decide ((i : Int) < (l1.length : Int)) = true := decide_eq_true (by omega)
   have y2 : (i : Int) < (l1.length : Int) := by omega
   have y4 : (i : Int) ≤ 32 := by have := H1.1; omega
   have y3 : (i : Int) < (l2_0.length : Int) := by have := H2.1; omega
   have hcr := (HB.1.cell (World.block_lt_of_cell? w _ (HCR.1 i hi))).trans (HCR.1 i hi); have hcl := (HB.1.cell (World.block_lt_of_cell? w _ (HCL.1 i (by omega)))).trans (HCL.1 i (by omega)); obtain ⟨cv, hcv⟩ : ∃ cv, cv = l1.getD i 0 := ⟨_, rfl⟩; obtain ⟨bv, hbv⟩ : ∃ bv, bv = l2_0.getD i false := ⟨_, rfl⟩; rw [← hcv] at hcr; rw [← hbv] at hcl; have HCV := ak hcv; have HBV := ak hbv; clear hcv hbv; have e40 := blk_cell BK4.1 0; have e41 := blk_cell BK4.1 1; have e42 := blk_cell BK4.1 2; have e43 := blk_cell BK4.1 3; have e44 := blk_cell BK4.1 4; have e60 := blk_cell BK6.1 0; have e61 := blk_cell BK6.1 1
   try simp at e40 e41 e42 e43 e44 e60 e61
   by_cases hbf : bv = a3
   ·have z1 : (bv == a3) = true := beq_iff_eq.2 hbf; have HBF := ak hbf; clear hbf
    go_wp2_with fail
    go_loopg [9, 31] 6 (fun kr v9 v31 w' => ∃ (d : Nat), v31 = .int .i64 (d : Int) ∧ Aside0 (kr + d = 6) ∧ Aside0 (Kd.R k51 51 w' w.heap.size (fun _ => True) v9 (shiftsR a0_0 a0_1 a0_2 l0_3 l0_4 l1 l2_0 a3 i ++ shiftsI a0_0 a0_1 a0_2 l0_3 l0_4 l1 l2_0 a3 i d)) ∧ Aside0 (w'.heap[g4]? = some (.cells #[.int .i64 a0_0, .int .i64 a0_1, .int .i64 a0_2, .slice A0_3 l0_3.length c0_3, .slice A0_4 l0_4.length c0_4] 24 (0, 0))) ∧ Aside0 (w'.heap[g6]? = some (.cells #[.slice (some al) l2_0.length c2_0, .int .i64 a2_1] 27 (0, 0))) ∧ Aside0 (Below w.heap.size w w'))
    case atStart => exact ⟨0, rfl, ⟨rfl⟩, ⟨by rw [shiftsI, List.append_nil]; exact HO.1⟩, BK4, BK6, HB⟩
    case round =>
     clear HO BK4 BK6 HB e40 e41 e42 e43 e44 e60 e61 hcr hcl; obtain ⟨d, rfl, HK, HO, BK4, BK6, HB⟩ := hrel
     by_cases hd : d < 6
     ·have y1 : decide ((d : Int) < 6) = true := decide_eq_true (by omega)
      have y2 : (d : Int) < 6 := by omega
      have HNX := ak (HF.1.next_f cv (d : Int)); obtain ⟨tt, ok, hnx⟩ : ∃ t o, nx a0_0 a0_1 a0_2 l0_3 l0_4 cv (d : Int) = (t, o) := ⟨_, _, rfl⟩; rw [hnx] at HNX; have HNE := ak hnx; clear hnx; have e40 := blk_cell BK4.1 0; have e41 := blk_cell BK4.1 1; have e42 := blk_cell BK4.1 2; have e43 := blk_cell BK4.1 3; have e44 := blk_cell BK4.1 4; have e60 := blk_cell BK6.1 0; have e61 := blk_cell BK6.1 1
      try simp at e40 e41 e42 e43 e44 e60 e61
      obtain ⟨q, hq⟩ : ∃ q, q = shiftsR a0_0 a0_1 a0_2 l0_3 l0_4 l1 l2_0 a3 i ++ shiftsI a0_0 a0_1 a0_2 l0_3 l0_4 l1 l2_0 a3 i d := ⟨_, rfl⟩; rw [← hq] at HO
      have HQL := ak (show q.length ≤ 1000 by
       rw [hq, List.length_append]; have h1 := shiftsR_len (W := a0_0) (H := a0_1) (D := a0_2) (K := l0_3) (O := l0_4) (r := l1) (l := l2_0) (full := a3) i; have h2 := shiftsI_len (W := a0_0) (H := a0_1) (D := a0_2) (K := l0_3) (O := l0_4) (r := l1) (l := l2_0) (full := a3) i d; have := H1.1
       omega)
      have HQ := ak hq; clear hq
      cases ok with
      | false =>
       have HD := ak (show shiftD a0_0 a0_1 a0_2 l0_3 l0_4 l1 l2_0 a3 i d = [] by
        unfold shiftD
        rw [← HCV.1, HNE.1, if_neg (by simp)])
       go_wp2_with ((go_at_call 78; refine (floor_Next.calls 1 _ _ _ _ _ l0_3 _ _ l0_4 _ _ _ _ _ (Kd.C_below HR3.1 HB.1) HC3.1 (Kd.C_below HR4.1 HB.1) HC4.1 HNX.1).mono ?_; rintro e w78 ⟨rfl, hb⟩; have n_HO := ak (Kd.R_below HO.1 hb); have n_BK4 := ak (blk_below BK4.1 hb); have n_BK6 := ak (blk_below BK6.1 hb); have n_HB := ak (below_step HB.1 hb); clear BK4; clear BK6; clear HB; have BK4 := n_BK4; have BK6 := n_BK6; have HB := n_HB; clear n_BK4 n_BK6 n_HB; clear HO; have HO := n_HO; clear n_HO; clear hb; clear e40 e41 e42 e43 e44 e60 e61; have e40 := blk_cell BK4.1 0; have e41 := blk_cell BK4.1 1; have e42 := blk_cell BK4.1 2; have e43 := blk_cell BK4.1 3; have e44 := blk_cell BK4.1 4; have e60 := blk_cell BK6.1 0; have e61 := blk_cell BK6.1 1; try simp at e40 e41 e42 e43 e44 e60 e61; ))
       go_roundg (gk - 1)
       case measure => have := HK.1; omega
       case rel => exact ⟨d + 1, by first | rfl | simp, ⟨by have := HK.1; omega⟩, ⟨by have h := HO.1; rw [HQ.1] at h; rw [shiftsI_succ, HD.1, List.append_nil]; exact h⟩, BK4, BK6, HB⟩
      | true =>
       obtain ⟨hbs, kk, hk1, hk2⟩ := bs_f tt HS.1 (by have := H1.1; omega); rw [hk1] at hbs; have HBS := ak hbs; have HK1 := ak hk1; clear hbs hk1 hk2
       by_cases hfo : kk < l1.length ∧ l1.getD kk 0 = tt
       ·rw [decide_eq_true hfo] at HBS HK1; have HKK := ak (show kk < l2_0.length by have := H2.1; omega)
        have y5 : (kk : Int) < (l2_0.length : Int) := by have := H2.1; omega
        obtain ⟨bk, hbk⟩ : ∃ bk, bk = l2_0.getD kk false := ⟨_, rfl⟩; have HBK := ak hbk; clear hbk hfo
        by_cases hbe : bk = a3
        ·have z2 : (bk == a3) = true := beq_iff_eq.2 hbe
         have HD := ak (show shiftD a0_0 a0_1 a0_2 l0_3 l0_4 l1 l2_0 a3 i d = [] by
          unfold shiftD
          rw [← HCV.1, HNE.1]; dsimp only; rw [HK1.1]; dsimp only
          rw [Int.toNat_natCast, ← HBK.1, if_neg (fun h => h.2.2 hbe)])
         clear hbe
         go_wp2_with (first | (go_at_call 78; refine (floor_Next.calls 1 _ _ _ _ _ l0_3 _ _ l0_4 _ _ _ _ _ (Kd.C_below HR3.1 HB.1) HC3.1 (Kd.C_below HR4.1 HB.1) HC4.1 HNX.1).mono ?_; rintro e w78 ⟨rfl, hb⟩; have n_HO := ak (Kd.R_below HO.1 hb); have n_BK4 := ak (blk_below BK4.1 hb); have n_BK6 := ak (blk_below BK6.1 hb); have n_HB := ak (below_step HB.1 hb); clear BK4; clear BK6; clear HB; have BK4 := n_BK4; have BK6 := n_BK6; have HB := n_HB; clear n_BK4 n_BK6 n_HB; clear HO; have HO := n_HO; clear n_HO; clear hb; clear e40 e41 e42 e43 e44 e60 e61; have e40 := blk_cell BK4.1 0; have e41 := blk_cell BK4.1 1; have e42 := blk_cell BK4.1 2; have e43 := blk_cell BK4.1 3; have e44 := blk_cell BK4.1 4; have e60 := blk_cell BK6.1 0; have e61 := blk_cell BK6.1 1; try simp at e40 e41 e42 e43 e44 e60 e61; ) | (go_at_call 84; refine (slices_BinarySearch_int_int.calls _ _ _ l1 _ _ _ _ (Kd.C_below HR1.1 HB.1) HC1.1 HBS.1).mono ?_; rintro e w84 ⟨rfl, hd⟩; have hb := hd.below; clear hd; have n_HO := ak (Kd.R_below HO.1 hb); have n_BK4 := ak (blk_below BK4.1 hb); have n_BK6 := ak (blk_below BK6.1 hb); have n_HB := ak (below_step HB.1 hb); clear BK4; clear BK6; clear HB; have BK4 := n_BK4; have BK6 := n_BK6; have HB := n_HB; clear n_BK4 n_BK6 n_HB; clear HO; have HO := n_HO; clear n_HO; clear hb; clear e40 e41 e42 e43 e44 e60 e61; have e40 := blk_cell BK4.1 0; have e41 := blk_cell BK4.1 1; have e42 := blk_cell BK4.1 2; have e43 := blk_cell BK4.1 3; have e44 := blk_cell BK4.1 4; have e60 := blk_cell BK6.1 0; have e61 := blk_cell BK6.1 1; try simp at e40 e41 e42 e43 e44 e60 e61; have hck := (HB.1.cell (World.block_lt_of_cell? w _ (HCL.1 kk HKK.1))).trans (HCL.1 kk HKK.1); rw [← HBK.1] at hck))
         go_roundg (gk - 1)
         case measure => have := HK.1; omega
         case rel => exact ⟨d + 1, by first | rfl | simp, ⟨by have := HK.1; omega⟩, ⟨by have h := HO.1; rw [HQ.1] at h; rw [shiftsI_succ, HD.1, List.append_nil]; exact h⟩, BK4, BK6, HB⟩
        ·have z2 : (bk == a3) = false := beq_eq_false_iff_ne.2 hbe
         have HD := ak (show shiftD a0_0 a0_1 a0_2 l0_3 l0_4 l1 l2_0 a3 i d = [⟨(i : Int), (kk : Int)⟩] by
          unfold shiftD
          rw [← HCV.1, HNE.1]; dsimp only; rw [HK1.1]; dsimp only
          rw [Int.toNat_natCast, ← HBK.1, if_pos ⟨rfl, rfl, hbe⟩])
         clear hbe
         go_wp2_with (first | (go_at_call 78; refine (floor_Next.calls 1 _ _ _ _ _ l0_3 _ _ l0_4 _ _ _ _ _ (Kd.C_below HR3.1 HB.1) HC3.1 (Kd.C_below HR4.1 HB.1) HC4.1 HNX.1).mono ?_; rintro e w78 ⟨rfl, hb⟩; have n_HO := ak (Kd.R_below HO.1 hb); have n_BK4 := ak (blk_below BK4.1 hb); have n_BK6 := ak (blk_below BK6.1 hb); have n_HB := ak (below_step HB.1 hb); clear BK4; clear BK6; clear HB; have BK4 := n_BK4; have BK6 := n_BK6; have HB := n_HB; clear n_BK4 n_BK6 n_HB; clear HO; have HO := n_HO; clear n_HO; clear hb; clear e40 e41 e42 e43 e44 e60 e61; have e40 := blk_cell BK4.1 0; have e41 := blk_cell BK4.1 1; have e42 := blk_cell BK4.1 2; have e43 := blk_cell BK4.1 3; have e44 := blk_cell BK4.1 4; have e60 := blk_cell BK6.1 0; have e61 := blk_cell BK6.1 1; try simp at e40 e41 e42 e43 e44 e60 e61; ) | (go_at_call 84; refine (slices_BinarySearch_int_int.calls _ _ _ l1 _ _ _ _ (Kd.C_below HR1.1 HB.1) HC1.1 HBS.1).mono ?_; rintro e w84 ⟨rfl, hd⟩; have hb := hd.below; clear hd; have n_HO := ak (Kd.R_below HO.1 hb); have n_BK4 := ak (blk_below BK4.1 hb); have n_BK6 := ak (blk_below BK6.1 hb); have n_HB := ak (below_step HB.1 hb); clear BK4; clear BK6; clear HB; have BK4 := n_BK4; have BK6 := n_BK6; have HB := n_HB; clear n_BK4 n_BK6 n_HB; clear HO; have HO := n_HO; clear n_HO; clear hb; clear e40 e41 e42 e43 e44 e60 e61; have e40 := blk_cell BK4.1 0; have e41 := blk_cell BK4.1 1; have e42 := blk_cell BK4.1 2; have e43 := blk_cell BK4.1 3; have e44 := blk_cell BK4.1 4; have e60 := blk_cell BK6.1 0; have e61 := blk_cell BK6.1 1; try simp at e40 e41 e42 e43 e44 e60 e61; have hck := (HB.1.cell (World.block_lt_of_cell? w _ (HCL.1 kk HKK.1))).trans (HCL.1 kk HKK.1); rw [← HBK.1] at hck) | (at_builtin; refine Kd.R_append k51 (w0 := w) w.heap.size rfl (.tmp 59) (.tmp 63) 35 51 (.agg #[(.int .i64 0), (.int .i64 0)]) 16 rfl Try.underlying35 info51 rfl (by decide) (by omega) u9 q (⟨(i : Int), (kk : Int)⟩ : S51) [.int .i64 (i : Int), .int .i64 (kk : Int)] (fun _ => True) (fun _ => False) rfl rfl (k51_mkM _ _ _ (⟨(i : Int), (kk : Int)⟩ : S51)) (fun _ hk => hk.elim) (fun _ _ => trivial) HO.1 HB.1 HB.1.size (by have := HQL.1; omega) ?_; intro v64 w64 ho hb hg hat; have n_BK4 := ak (blk_grown BK4.1 hg (Kd.R_ne HO.1 BK4.1 (by decide))); have n_BK6 := ak (blk_grown BK6.1 hg (Kd.R_ne HO.1 BK6.1 (by decide))); have n_HO := ak ho; have n_HB := ak hb; clear BK4 BK6 HO HB; have BK4 := n_BK4; have BK6 := n_BK6; have HO := n_HO; have HB := n_HB; clear n_BK4 n_BK6 n_HO n_HB ho hb hg hat; clear e40 e41 e42 e43 e44 e60 e61))
         go_roundg (gk - 1)
         case measure => have := HK.1; omega
         case rel => exact ⟨d + 1, by first | rfl | simp, ⟨by have := HK.1; omega⟩, ⟨by have h := HO.1; rw [HQ.1, List.append_assoc] at h; rw [shiftsI_succ, HD.1]; exact h⟩, BK4, BK6, HB⟩
       ·rw [decide_eq_false hfo] at HBS HK1
        have HD := ak (show shiftD a0_0 a0_1 a0_2 l0_3 l0_4 l1 l2_0 a3 i d = [] by
         unfold shiftD
         rw [← HCV.1, HNE.1]; dsimp only; rw [HK1.1]
         rw [if_neg (by simp)])
        clear hfo
        go_wp2_with (first | (go_at_call 78; refine (floor_Next.calls 1 _ _ _ _ _ l0_3 _ _ l0_4 _ _ _ _ _ (Kd.C_below HR3.1 HB.1) HC3.1 (Kd.C_below HR4.1 HB.1) HC4.1 HNX.1).mono ?_; rintro e w78 ⟨rfl, hb⟩; have n_HO := ak (Kd.R_below HO.1 hb); have n_BK4 := ak (blk_below BK4.1 hb); have n_BK6 := ak (blk_below BK6.1 hb); have n_HB := ak (below_step HB.1 hb); clear BK4; clear BK6; clear HB; have BK4 := n_BK4; have BK6 := n_BK6; have HB := n_HB; clear n_BK4 n_BK6 n_HB; clear HO; have HO := n_HO; clear n_HO; clear hb; clear e40 e41 e42 e43 e44 e60 e61; have e40 := blk_cell BK4.1 0; have e41 := blk_cell BK4.1 1; have e42 := blk_cell BK4.1 2; have e43 := blk_cell BK4.1 3; have e44 := blk_cell BK4.1 4; have e60 := blk_cell BK6.1 0; have e61 := blk_cell BK6.1 1; try simp at e40 e41 e42 e43 e44 e60 e61; ) | (go_at_call 84; refine (slices_BinarySearch_int_int.calls _ _ _ l1 _ _ _ _ (Kd.C_below HR1.1 HB.1) HC1.1 HBS.1).mono ?_; rintro e w84 ⟨rfl, hd⟩; have hb := hd.below; clear hd; have n_HO := ak (Kd.R_below HO.1 hb); have n_BK4 := ak (blk_below BK4.1 hb); have n_BK6 := ak (blk_below BK6.1 hb); have n_HB := ak (below_step HB.1 hb); clear BK4; clear BK6; clear HB; have BK4 := n_BK4; have BK6 := n_BK6; have HB := n_HB; clear n_BK4 n_BK6 n_HB; clear HO; have HO := n_HO; clear n_HO; clear hb; clear e40 e41 e42 e43 e44 e60 e61; have e40 := blk_cell BK4.1 0; have e41 := blk_cell BK4.1 1; have e42 := blk_cell BK4.1 2; have e43 := blk_cell BK4.1 3; have e44 := blk_cell BK4.1 4; have e60 := blk_cell BK6.1 0; have e61 := blk_cell BK6.1 1; try simp at e40 e41 e42 e43 e44 e60 e61; ))
        go_roundg (gk - 1)
        case measure => have := HK.1; omega
        case rel => exact ⟨d + 1, by first | rfl | simp, ⟨by have := HK.1; omega⟩, ⟨by have h := HO.1; rw [HQ.1] at h; rw [shiftsI_succ, HD.1, List.append_nil]; exact h⟩, BK4, BK6, HB⟩
     ·have hd6 : d = 6 := by have := HK.1; omega
      have y1 : decide ((d : Int) < 6) = false := decide_eq_false (by omega)
      have HO2 := ak (show Kd.R k51 51 wr w.heap.size (fun _ => True) u9 (shiftsR a0_0 a0_1 a0_2 l0_3 l0_4 l1 l2_0 a3 (i + 1)) by
       have h := HO.1; rw [hd6] at h; rw [shiftsR, if_pos (by rw [← HBV.1, HBF.1])]
       exact h)
      clear hd6
      go_wp2
      go_roundg (l1.length - i - 1)
      case measure => have := HI.1; omega
      case rel => exact ⟨i + 1, by first | rfl | simp, ⟨by have := HI.1; omega⟩, HO2, BK4, BK6, HB⟩
   ·have z1 : (bv == a3) = false := beq_eq_false_iff_ne.2 hbf
    have HO2 := ak (show Kd.R k51 51 wr w.heap.size (fun _ => True) u9 (shiftsR a0_0 a0_1 a0_2 l0_3 l0_4 l1 l2_0 a3 (i + 1)) by
     have h := HO.1; rw [shiftsR, if_neg (by rw [← HBV.1]; exact hbf), List.append_nil]
     exact h)
    clear hbf
    go_wp2
    go_roundg (gk - 1)
    case measure => have := HI.1; omega
    case rel => exact ⟨i + 1, by first | rfl | simp, ⟨by have := HI.1; omega⟩, HO2, BK4, BK6, HB⟩
  ·have hie : i = l1.length := by have := HI.1; omega
   have y1 : decide ((i : Int) < (l1.length : Int)) = false := decide_eq_false (by omega); rw [hie] at HO
   have y2 : (l1.length : Int) ≤ (i : Int) := by omega
   clear hie hi; obtain ⟨A9, c9, hu9⟩ := Kd.R_slice HO.1; have HLN := ak (shiftsR_len (W := a0_0) (H := a0_1) (D := a0_2) (K := l0_3) (O := l0_4) (r := l1) (l := l2_0) (full := a3) l1.length); have HSM := ak (small_shiftsR (W := a0_0) (H := a0_1) (D := a0_2) (K := l0_3) (O := l0_4) (r := l1) (l := l2_0) (full := a3) HS.1 H1.1); have HPS := ak (fun (q : List S51) => shifts_sorted (W := a0_0) (H := a0_1) (D := a0_2) (K := l0_3) (O := l0_4) (r := l1) (l := l2_0) (full := a3) (q := q) HF.1 HS.1 (by have := H1.1; omega)); obtain ⟨raw, hraw⟩ : ∃ q, q = shiftsR a0_0 a0_1 a0_2 l0_3 l0_4 l1 l2_0 a3 l1.length := ⟨_, rfl⟩; rw [← hraw] at HO HLN HSM HPS hu9; clear hraw; subst hu9
   go_wp2_with (first | (go_at_call 85; refine (sort_shifts _ raw _ w.heap.size A9 c9 rfl HO.1 HSM.1 HB.1.size (by have := HLN.1; have := H1.1; omega)).mono ?_; rintro e w85 ⟨rfl, q, hp, hq, hR, hg⟩; have HQ := ak (HPS.1 q hp hq); have HLQ := ak hp.length_eq; have HB5 := ak (pw_below_grown HB.1 _ HB.1.size hg (base_of HO.1)); have HRQ := ak hR; clear hp hq hR hg) | (go_at_call 87; refine (compact_same A9 raw.length c9 (fun i => (rd_T51 q i).f0) (fun i => (rd_T51 q i).f1) _ (by have := HLN.1; have := H1.1; omega) (fun hn => R51_form HRQ.1 hn) (fun i hi => neighbours HQ.1.2 (by rw [HLQ.1]; exact hi))).mono ?_; rintro e w87 ⟨rfl, m, rfl⟩))
   go_ret
   exact ⟨_, rfl, by rw [← HQ.1.1]; exact Kd.R_drewN HRQ.1 _, pw_below_drewN HB5.1 _⟩
instance {W H D : Int} {K O : List Int} : Decidable (FloorOk W H D K O) :=
 decidable_of_iff (1 ≤ W ∧ W ≤ 4096 ∧ 1 ≤ H ∧ H ≤ 4096 ∧ 1 ≤ D ∧ D ≤ 4 ∧ W * H * D ≤ 4096 ∧ (K.length : Int) = W * H * D ∧ (O.length : Int) = W * H * D) ⟨fun ⟨a, b, c, d, e, f, g, h, i⟩ => ⟨a, b, c, d, e, f, g, h, i⟩, fun h => ⟨h.w1, h.w2, h.h1, h.h2, h.d1, h.d2, h.sz, h.kl, h.ol⟩⟩
def okS (W H D : Int) (K O : List Int) (r : List Int) (l : List Bool) : Prop := FloorOk W H D K O ∧ r.Pairwise (· < ·) ∧ 0 < r.length ∧ r.length ≤ 32 ∧ r.length ≤ l.length ∧ l.length ≤ 1000000
instance {W H D : Int} {K O : List Int} {r : List Int} {l : List Bool} : Decidable (okS W H D K O r l) := by unfold okS; infer_instance
def layout_shifts.f (W H D : Int) (K O : List Int) (r : List Int) (l : List Bool) (t : Int) (full : Bool) : Option (List S51) := if okS W H D K O r l then some (shiftsN W H D K O r l full) else none
theorem layout_shifts.calls (a0_0 : Int) (a0_1 : Int) (a0_2 : Int) (A0_3 : Option Addr) (c0_3 : Nat) (l0_3 : List Int) (A0_4 : Option Addr) (c0_4 : Nat) (l0_4 : List Int) (A1 : Option Addr) (c1 : Nat) (l1 : List Int) (A2_0 : Option Addr) (c2_0 : Nat) (l2_0 : List Bool) (a2_1 : Int) (a3 : Bool) (r : List S51) (w : World) (hr0_3 : Kd.C (Kd.int .i64) w A0_3 l0_3.length l0_3) (hc0_3 : l0_3.length ≤ c0_3) (hr0_4 : Kd.C (Kd.int .i64) w A0_4 l0_4.length l0_4) (hc0_4 : l0_4.length ≤ c0_4) (hr1 : Kd.C (Kd.int .i64) w A1 l1.length l1) (hc1 : l1.length ≤ c1) (hr2_0 : Kd.C Kd.bool w A2_0 l2_0.length l2_0) (hc2_0 : l2_0.length ≤ c2_0) (h : layout_shifts.f a0_0 a0_1 a0_2 l0_3 l0_4 l1 l2_0 a2_1 a3 = some r) :
  Calls Try.prog 65 #[.agg #[.int .i64 a0_0, .int .i64 a0_1, .int .i64 a0_2, .slice A0_3 l0_3.length c0_3, .slice A0_4 l0_4.length c0_4], .slice A1 l1.length c1, .agg #[.slice A2_0 l2_0.length c2_0, .int .i64 a2_1], .bool a3] w fun e w' => ∃ v0_ : Value, e = .returned (v0_) ∧ Kd.R k51 51 w' w.heap.size (fun _ => True) v0_ r ∧ Below w.heap.size w w' := by
 unfold layout_shifts.f at h
 split at h
 ·rename_i hk
  injection h with h
  subst h; obtain ⟨hf, hs, hne, hl1, hl2, hl3⟩ := hk; exact shifts_walk a0_0 a0_1 a0_2 A0_3 c0_3 l0_3 A0_4 c0_4 l0_4 A1 c1 l1 A2_0 c2_0 l2_0 a2_1 a3 w hr0_3 hc0_3 hr0_4 hc0_4 hr1 hc1 hr2_0 hc2_0 hf hs hl1 hl2 hl3 hne
 ·cases h
end Go.Proofs.Ytogmjilaiopjmaa.P
end
section
namespace Go.Proofs.Ytogmjilaiopjmaa.P
open Go.RowKit Go.Proofs.YtogmjilaiopjmaaW.PrintWords Go.Proofs.YtogmjilaiopjmaaW.PrintLast Go.Proofs.YtogmjilaiopjmaaW.PrintMore
abbrev St := List Int × List Nat
def reachP (st : St) (i : Nat) (v : Int) : St := if st.1.getD i 0 < 0 then (st.1.set i v, st.2 ++ [i]) else st
def initP (n k : Nat) (goal : Int) : Nat → St
 | 0 => (List.replicate (cntN n k) 0, [])
 | i + 1 =>
  let st := initP n k goal i
  let st1 : St := (st.1.set i (-1), st.2)
  if (unrT n k i : Int) = goal then reachP st1 i 0 else st1
def backP (l : List Bool) (t : Int) (rank : Nat) (st : St) (s : S51) : Option St :=
 (layout_Do.f l t s.f1 s.f0).bind fun b => (layout_Rank.f b.1 b.2.1).bind fun m =>
  if m.toNat < st.1.length ∧ 0 ≤ st.1.getD rank 0 ∧ st.1.getD rank 0 ≤ 1000000 ∧ st.2.length ≤ 1000000 then some (reachP st m.toNat (st.1.getD rank 0 + 1)) else none
def backsP (l : List Bool) (t : Int) (rank : Nat) : St → List S51 → Option St
 | st, [] => some st
 | st, s :: ss => (backP l t rank st s).bind fun st' => backsP l t rank st' ss
section
variable (W H D : Int) (K O r : List Int) (n k : Nat)
def bfsP : Nat → List Int → List Nat → Option (List Int)
 | 0, _, _ => none
 | _ + 1, out, [] => some out
 | f + 1, out, rank :: q =>
  if rank < cntN n k ∧ out.length = cntN n k then
   (layout_shifts.f W H D K O r (unrL n k rank) (unrT n k rank : Int) false).bind fun ss =>
    (backsP (unrL n k rank) (unrT n k rank : Int) rank (out, q) ss).bind fun st => bfsP f st.1 st.2
  else none
end
def puzzle_Table.f (W H D : Int) (K O r : List Int) (k goal : Int) : Option (List Int × Int) :=
 if 12 < r.length then some ([], 27)
 else if k < 1 ∨ (r.length : Int) < k ∨ goal < 0 ∨ (r.length : Int) ≤ goal then some ([], 3)
 else (bfsP W H D K O r r.length k.toNat (cntN r.length k.toNat + 1) (initP r.length k.toNat goal (cntN r.length k.toNat)).1 (initP r.length k.toNat goal (cntN r.length k.toNat)).2).bind fun out => some (out, 0)
theorem reachP_len (st : St) (i : Nat) (v : Int) : (reachP st i v).1.length = st.1.length := by
 unfold reachP
 split <;> simp
theorem initP_len (n k : Nat) (goal : Int) : ∀ i, (initP n k goal i).1.length = cntN n k
 | 0 => by simp [initP]
 | i + 1 => by
  have := initP_len n k goal i; simp only [initP]
  split
  ·rw [reachP_len]; simpa using this
  ·simpa using this
end Go.Proofs.Ytogmjilaiopjmaa.P
end
section
namespace Go.Proofs.Ytogmjilaiopjmaa.P
theorem getD_set (l : List Int) (i x : Nat) (v : Int) (h : i < l.length) : (l.set i v).getD x 0 = if x = i then v else l.getD x 0 := by
 by_cases e : x = i
 ·subst e
  simp [List.getD_eq_getElem?_getD, List.getElem?_set, h]
 ·have e' : ¬ i = x := fun h' => e h'.symm
  simp [List.getD_eq_getElem?_getD, List.getElem?_set, e, e']
def neg (l : List Int) : Nat := l.countP fun x => decide (x < 0)
theorem neg_set : ∀ (l : List Int) (i : Nat) (v : Int), i < l.length → l.getD i 0 < 0 → 0 ≤ v → neg (l.set i v) + 1 = neg l
 | [], i, v, h, _, _ => by simp at h
 | a :: l, 0, v, _, h, hv => by
  simp at h
  have h2 : ¬ v < 0 := by omega
  simp [neg, h, h2]
 | a :: l, i + 1, v, h, h', hv => by
  have := neg_set l i v (by simpa using h) (by simpa using h') hv
  unfold neg at this ⊢
  rw [List.set_cons_succ, List.countP_cons, List.countP_cons]
  omega
section
variable (m : Nat) (tgt : Nat → Prop) (pred : Nat → List Nat)
structure Inv (out : List Int) (q : List Nat) (p : Nat) : Prop where
 len : out.length = m
 lo : ∀ x, x < m → -1 ≤ out.getD x 0
 zero : ∀ x, x < m → (out.getD x 0 = 0 ↔ tgt x)
 qr : ∀ a, a ∈ q → a < m ∧ 0 ≤ out.getD a 0
 qs : q.Pairwise fun a b => out.getD a 0 ≤ out.getD b 0
 top : ∀ a, a ∈ q → ∀ y, y < m → out.getD y 0 ≤ out.getD a 0 + 1
 done : ∀ x, x < m → 0 ≤ out.getD x 0 → x ∈ q ∨ ∀ y, y ∈ pred x → 0 ≤ out.getD y 0 ∧ out.getD y 0 ≤ out.getD x 0 + 1
 from_ : ∀ x, x < m → 0 < out.getD x 0 → ∃ z, z < m ∧ x ∈ pred z ∧ out.getD z 0 = out.getD x 0 - 1
 bd : ∀ x, x < m → out.getD x 0 ≤ p
 budget : neg out + q.length + p ≤ m
structure Mid (h : Nat) (d : Int) (seen : List Nat) (p : Nat) (st : St) : Prop where
 len : st.1.length = m
 lo : ∀ x, x < m → -1 ≤ st.1.getD x 0
 zero : ∀ x, x < m → (st.1.getD x 0 = 0 ↔ tgt x)
 qr : ∀ a, a ∈ st.2 → a < m ∧ 0 ≤ st.1.getD a 0
 qs : st.2.Pairwise fun a b => st.1.getD a 0 ≤ st.1.getD b 0
 hm : h < m
 hd : st.1.getD h 0 = d
 d0 : 0 ≤ d
 dp : d ≤ p
 qd : ∀ a, a ∈ st.2 → d ≤ st.1.getD a 0
 top : ∀ y, y < m → st.1.getD y 0 ≤ d + 1
 done : ∀ x, x < m → 0 ≤ st.1.getD x 0 → x ∈ st.2 ∨ x = h ∨ ∀ y, y ∈ pred x → 0 ≤ st.1.getD y 0 ∧ st.1.getD y 0 ≤ st.1.getD x 0 + 1
 seen : ∀ y, y ∈ seen → 0 ≤ st.1.getD y 0
 from_ : ∀ x, x < m → 0 < st.1.getD x 0 → ∃ z, z < m ∧ x ∈ pred z ∧ st.1.getD z 0 = st.1.getD x 0 - 1
 bd : ∀ x, x < m → st.1.getD x 0 ≤ p + 1
 budget : neg st.1 + st.2.length + p + 1 ≤ m
variable {m tgt pred}
theorem Mid.start {out : List Int} {h : Nat} {q : List Nat} {p : Nat} (i : Inv m tgt pred out (h :: q) p) : Mid m tgt pred h (out.getD h 0) [] p (out, q) := by
 obtain ⟨hs, hq⟩ := List.pairwise_cons.1 i.qs; have hh := i.qr h (by simp); refine ⟨i.len, i.lo, i.zero, fun a ha => i.qr a (by simp [ha]), hq, hh.1, rfl, hh.2, i.bd h hh.1, hs, i.top h (by simp), fun x hx h0 => ?_, fun y hy => by simp at hy, i.from_, fun x hx => ?_, ?_⟩
 ·rcases i.done x hx h0 with h1 | h1
  ·rcases List.mem_cons.1 h1 with h2 | h2
   ·exact .inr (.inl h2)
   ·exact .inl h2
  ·exact .inr (.inr h1)
 ·have := i.bd x hx
  show out.getD x 0 ≤ p + 1
  omega
 ·have := i.budget; simp only [List.length_cons] at this ⊢
  omega
theorem Mid.finish {h : Nat} {d : Int} {p : Nat} {st : St} (i : Mid m tgt pred h d (pred h) p st) (hp : ∀ x, x < m → ∀ y, y ∈ pred x → y < m) : Inv m tgt pred st.1 st.2 (p + 1) := by
 refine ⟨i.len, i.lo, i.zero, i.qr, i.qs, fun a ha y hy => ?_, fun x hx h0 => ?_, i.from_, fun x hx => ?_, ?_⟩
 ·have h1 := i.qd a ha; have h2 := i.top y hy
  omega
 ·rcases i.done x hx h0 with h1 | h1 | h1
  ·exact .inl h1
  ·subst h1; refine .inr fun y hy => ⟨i.seen y hy, ?_⟩; rw [i.hd]; exact i.top y (hp x hx y hy)
  ·exact .inr h1
 ·have := i.bd x hx
  omega
 ·have := i.budget
  omega
theorem Mid.step {h : Nat} {d : Int} {p : Nat} {st : St} {seen : List Nat} {y : Nat} (i : Mid m tgt pred h d seen p st) (hy : y < m) (hp : y ∈ pred h) : Mid m tgt pred h d (seen ++ [y]) p (reachP st y (d + 1)) := by
 have hyl : y < st.1.length := by rw [i.len]; exact hy
 unfold reachP
 by_cases hn : st.1.getD y 0 < 0
 ·rw [if_pos hn]; have hg : ∀ x, (st.1.set y (d + 1)).getD x 0 = if x = y then d + 1 else st.1.getD x 0 := fun x => getD_set _ _ _ _ hyl
  have hold : ∀ x, 0 ≤ st.1.getD x 0 → (st.1.set y (d + 1)).getD x 0 = st.1.getD x 0 := fun x hx => by
   rw [hg, if_neg]; rintro rfl
   omega
  have d0 := i.d0; refine ⟨by simpa using i.len, fun x hx => ?_, fun x hx => ?_, fun a ha => ?_, ?_, i.hm, ?_, i.d0, i.dp, fun a ha => ?_, fun x hx => ?_, fun x hx h0 => ?_, fun x hx => ?_, fun x hx h0 => ?_, fun x hx => ?_, ?_⟩
  ·show -1 ≤ (st.1.set y (d + 1)).getD x 0
   rw [hg]
   split
   ·omega
   ·exact i.lo x hx
  ·show (st.1.set y (d + 1)).getD x 0 = 0 ↔ tgt x
   rw [hg]
   by_cases e : x = y
   ·rw [if_pos e]; subst e
    constructor
    ·intro h1; omega
    ·intro h1; have := (i.zero x hx).2 h1
     omega
   ·rw [if_neg e]; exact i.zero x hx
  ·show a < m ∧ 0 ≤ (st.1.set y (d + 1)).getD a 0
   rcases List.mem_append.1 ha with h1 | h1
   ·obtain ⟨h2, h3⟩ := i.qr a h1; exact ⟨h2, by rw [hold a h3]; exact h3⟩
   ·rw [List.mem_singleton] at h1; subst h1; exact ⟨hy, by rw [hg, if_pos rfl]; omega⟩
  ·show (st.2 ++ [y]).Pairwise fun a b => (st.1.set y (d + 1)).getD a 0 ≤ (st.1.set y (d + 1)).getD b 0
   rw [List.pairwise_append]; refine ⟨i.qs.imp_of_mem fun {a b} ha hb hab => by rw [hold a (i.qr a ha).2, hold b (i.qr b hb).2]; exact hab, List.pairwise_singleton _ _, fun a ha b hb => ?_⟩; rw [List.mem_singleton] at hb; subst hb; rw [hold a (i.qr a ha).2, hg, if_pos rfl]; exact i.top a (i.qr a ha).1
  ·show (st.1.set y (d + 1)).getD h 0 = d
   rw [hold h (by rw [i.hd]; omega), i.hd]
  ·show d ≤ (st.1.set y (d + 1)).getD a 0
   rcases List.mem_append.1 ha with h1 | h1
   ·rw [hold a (i.qr a h1).2]; exact i.qd a h1
   ·rw [List.mem_singleton] at h1; rw [hg, if_pos h1]; omega
  ·show (st.1.set y (d + 1)).getD x 0 ≤ d + 1
   rw [hg]
   split
   ·omega
   ·exact i.top x hx
  ·show x ∈ st.2 ++ [y] ∨ x = h ∨ ∀ z, z ∈ pred x → 0 ≤ (st.1.set y (d + 1)).getD z 0 ∧ (st.1.set y (d + 1)).getD z 0 ≤ (st.1.set y (d + 1)).getD x 0 + 1
   by_cases e : x = y
   ·exact .inl (by simp [e])
   ·have h0' : 0 ≤ st.1.getD x 0 := by
     have h1 : 0 ≤ (st.1.set y (d + 1)).getD x 0 := h0; rw [hg, if_neg e] at h1; exact h1
    rcases i.done x hx h0' with h1 | h1 | h1
    ·exact .inl (List.mem_append_left _ h1)
    ·exact .inr (.inl h1)
    ·refine .inr (.inr fun z hz => ?_); obtain ⟨h2, h3⟩ := h1 z hz; rw [hold z h2, hold x h0']; exact ⟨h2, h3⟩
  ·show 0 ≤ (st.1.set y (d + 1)).getD x 0
   rcases List.mem_append.1 hx with h1 | h1
   ·rw [hold x (i.seen x h1)]; exact i.seen x h1
   ·rw [List.mem_singleton] at h1; rw [hg, if_pos h1]; omega
  ·show ∃ z, z < m ∧ x ∈ pred z ∧ (st.1.set y (d + 1)).getD z 0 = (st.1.set y (d + 1)).getD x 0 - 1
   by_cases e : x = y
   ·subst e; refine ⟨h, i.hm, hp, ?_⟩; rw [hold h (by rw [i.hd]; omega), i.hd, hg, if_pos rfl]
    omega
   ·have h0' : 0 < st.1.getD x 0 := by
     have h1 : 0 < (st.1.set y (d + 1)).getD x 0 := h0; rw [hg, if_neg e] at h1; exact h1
    obtain ⟨z, hz, h1, h2⟩ := i.from_ x hx h0'; exact ⟨z, hz, h1, by rw [hold z (by omega), hold x (by omega)]; exact h2⟩
  ·show (st.1.set y (d + 1)).getD x 0 ≤ p + 1
   rw [hg]
   split
   ·have := i.dp; omega
   ·exact i.bd x hx
  ·show neg (st.1.set y (d + 1)) + (st.2 ++ [y]).length + p + 1 ≤ m
   have h1 := neg_set st.1 y (d + 1) hyl hn (by omega); have h2 := i.budget; simp only [List.length_append, List.length_singleton]
   omega
 ·rw [if_neg hn]; refine ⟨i.len, i.lo, i.zero, i.qr, i.qs, i.hm, i.hd, i.d0, i.dp, i.qd, i.top, i.done, fun x hx => ?_, i.from_, i.bd, i.budget⟩
  rcases List.mem_append.1 hx with h1 | h1
  ·exact i.seen x h1
  ·rw [List.mem_singleton] at h1; subst h1
   omega
def relax (d : Int) (st : St) (ps : List Nat) : St := ps.foldl (fun st y => reachP st y (d + 1)) st
theorem Mid.relax {h : Nat} {d : Int} {p : Nat} : ∀ (ps : List Nat) (st : St) (seen : List Nat), Mid m tgt pred h d seen p st → (∀ y, y ∈ ps → y < m ∧ y ∈ pred h) → Mid m tgt pred h d (seen ++ ps) p (relax d st ps)
 | [], st, seen, i, _ => by rw [List.append_nil]; exact i
 | y :: ps, st, seen, i, hp => by
  have h1 := (i.step (hp y (by simp)).1 (hp y (by simp)).2).relax ps _ _ (fun z hz => hp z (by simp [hz])); rw [List.append_assoc, List.singleton_append] at h1; exact h1
end
end Go.Proofs.Ytogmjilaiopjmaa.P
end
section
namespace Go.Proofs.Ytogmjilaiopjmaa.P
open Go.RowKit
def moveL (l : List Bool) (i j : Nat) : List Bool := (l.set i false).set j true
def moveT (t i j : Nat) : Nat := if t = i then j else t
theorem getB_set (l : List Bool) (i x : Nat) (v : Bool) (h : i < l.length) : (l.set i v).getD x false = if x = i then v else l.getD x false := by
 by_cases e : x = i
 ·subst e
  simp [List.getD_eq_getElem?_getD, List.getElem?_set, h]
 ·have e' : ¬ i = x := fun h' => e h'.symm
  simp [List.getD_eq_getElem?_getD, List.getElem?_set, e, e']
theorem moveL_len (l : List Bool) (i j : Nat) : (moveL l i j).length = l.length := by simp [moveL]
theorem moveL_get {l : List Bool} {i j : Nat} (hi : i < l.length) (hj : j < l.length) (x : Nat) : (moveL l i j).getD x false = if x = j then true else if x = i then false else l.getD x false := by
 unfold moveL
 rw [getB_set _ _ _ _ (by simpa using hj), getB_set _ _ _ _ hi]
theorem list_ext_getB {a b : List Bool} (h : a.length = b.length) (hx : ∀ x, a.getD x false = b.getD x false) : a = b := by
 apply List.ext_getElem h
 intro x h1 h2; have := hx x
 simpa [List.getD_eq_getElem?_getD, h1, h2] using this
theorem moveL_inv {l : List Bool} {i j : Nat} (hi : i < l.length) (hj : j < l.length) (h1 : l.getD i false = true) (h2 : l.getD j false = false) : moveL (moveL l i j) j i = l := by
 refine list_ext_getB (by simp [moveL_len]) fun x => ?_; rw [moveL_get (by rw [moveL_len]; exact hj) (by rw [moveL_len]; exact hi), moveL_get hi hj]
 by_cases e : x = i
 ·subst e; rw [if_pos rfl, h1]
 ·rw [if_neg e]
  by_cases e2 : x = j
  ·subst e2; rw [if_pos rfl, h2]
  ·rw [if_neg e2, if_neg e2, if_neg e]
theorem moveT_inv {l : List Bool} {t i j : Nat} (ht : l.getD t false = true) (h2 : l.getD j false = false) : moveT (moveT t i j) j i = t := by
 unfold moveT
 by_cases e : t = i
 ·subst e; rw [if_pos rfl, if_pos rfl]
 ·rw [if_neg e, if_neg]; rintro rfl; rw [ht] at h2; cases h2
theorem moveT_right {l : List Bool} {t i j : Nat} (hi : i < l.length) (hj : j < l.length) (ht : t < l.length) (h : l.getD t false = true) : moveT t i j < l.length ∧ (moveL l i j).getD (moveT t i j) false = true := by
 unfold moveT
 by_cases e : t = i
 ·rw [if_pos e]; exact ⟨hj, by rw [moveL_get hi hj, if_pos rfl]⟩
 ·rw [if_neg e]; refine ⟨ht, ?_⟩; rw [moveL_get hi hj]
  by_cases e2 : t = j
  ·rw [if_pos e2]
  ·rw [if_neg e2, if_neg e, h]
theorem shel_set_false : ∀ (l : List Bool) (i : Nat), l.getD i false = true → shel (l.set i false) + 1 = shel l
 | [], i, h => by simp at h
 | b :: l, 0, h => by
  simp at h
  rw [List.set_cons_zero, shel_cons, shel_cons, h]
  simp; omega
 | b :: l, i + 1, h => by
  have := shel_set_false l i (by simpa using h); rw [List.set_cons_succ, shel_cons, shel_cons]
  omega
theorem shel_set_true : ∀ (l : List Bool) (i : Nat), i < l.length → l.getD i false = false → shel (l.set i true) = shel l + 1
 | [], i, h, _ => by simp at h
 | b :: l, 0, _, h => by
  simp at h
  rw [List.set_cons_zero, shel_cons, shel_cons, h]
  simp; omega
 | b :: l, i + 1, hi, h => by
  have := shel_set_true l i (by simpa using hi) (by simpa using h); rw [List.set_cons_succ, shel_cons, shel_cons]
  omega
theorem shel_move {l : List Bool} {i j : Nat} (hi : i < l.length) (hj : j < l.length) (h1 : l.getD i false = true) (h2 : l.getD j false = false) : shel (moveL l i j) = shel l := by
 unfold moveL
 have e : ¬ j = i := by rintro rfl; rw [h1] at h2; cases h2
 rw [shel_set_true _ _ (by simpa using hj) (by rw [getB_set _ _ _ _ hi, if_neg e]; exact h2), shel_set_false _ _ h1]
theorem do_move {l : List Bool} {t i j : Nat} (hl : l.length ≤ 1000000) (hi : i < l.length) (hj : j < l.length) (h1 : l.getD i false = true) (h2 : l.getD j false = false) : layout_Do.f l (t : Int) (i : Int) (j : Int) = some (moveL l i j, ((moveT t i j : Nat) : Int), 0) := by
 unfold layout_Do.f
 rw [if_neg (fun h => h hl), if_neg (by omega), if_neg (by rw [Int.toNat_natCast, Int.toNat_natCast, h1, h2]; simp), Int.toNat_natCast, Int.toNat_natCast]
 unfold moveL moveT
 by_cases e : t = i
 ·subst e; simp
 ·have : ¬ (t : Int) = (i : Int) := by omega
  simp [e, this]
theorem okL_right {l : List Bool} {t : Nat} (h1 : l.length ≤ 24) (ht : t < l.length) (h : l.getD t false = true) : okL l (t : Int) = true := okL_iff.2 ⟨by omega, h1, by omega, by omega, by rw [Int.toNat_natCast]; exact h⟩
theorem rank_f {l : List Bool} {t : Nat} (h1 : l.length ≤ 24) (ht : t < l.length) (h : l.getD t false = true) : layout_Rank.f l (t : Int) = some (rankN l t : Int) := by
 unfold layout_Rank.f
 rw [if_pos (okL_right h1 ht h), Int.toNat_natCast]
section
variable (W H D : Int) (K O r : List Int) (n k : Nat)
def Edge (x y : Nat) : Prop := ∃ i j, i < n ∧ j < n ∧ (unrL n k x).getD i false = true ∧ (unrL n k x).getD j false = false ∧ gets W H D K O (r.getD i 0) (r.getD j 0) = true ∧ rankN (moveL (unrL n k x) i j) (moveT (unrT n k x) i j) = y
def backN (x : Nat) (s : S51) : Nat := rankN (moveL (unrL n k x) s.f1.toNat s.f0.toNat) (moveT (unrT n k x) s.f1.toNat s.f0.toNat)
def predN (x : Nat) : List Nat := (shiftsN W H D K O r (unrL n k x) false).map (backN n k x)
variable {W H D K O r n k}
theorem edge_lt (hk : 1 ≤ k) (hk2 : k ≤ n) {x : Nat} (hx : x < cntN n k) {i j : Nat} (hi : i < n) (hj : j < n) (h1 : (unrL n k x).getD i false = true) (h2 : (unrL n k x).getD j false = false) :
  let y := rankN (moveL (unrL n k x) i j) (moveT (unrT n k x) i j)
  y < cntN n k ∧ unrL n k y = moveL (unrL n k x) i j ∧ unrT n k y = moveT (unrT n k x) i j := by
 intro y; have hl := unrL_len hx; obtain ⟨hs, ht⟩ := unrL_right hk hk2 hx; have hT := unrT_lt hx; obtain ⟨a, b⟩ := moveT_right (i := i) (j := j) (by omega) (by omega) (by omega : unrT n k x < (unrL n k x).length) ht; have hsm := shel_move (l := unrL n k x) (by omega) (by omega) h1 h2; have hlm := moveL_len (unrL n k x) i j; have r1 := rank_lt (by omega) b; obtain ⟨r2, r3⟩ := unr_rank (by omega) b; rw [hlm, hsm, hl, hs] at r1 r2 r3; exact ⟨r1, r3, r2⟩
theorem mem_predN (hk : 1 ≤ k) (hk2 : k ≤ n) (hn : r.length = n) {x y : Nat} (hx : x < cntN n k) : y ∈ predN W H D K O r n k x ↔ y < cntN n k ∧ Edge W H D K O r n k y x := by
 have hl := unrL_len hx
 unfold predN
 rw [List.mem_map]
 constructor
 ·rintro ⟨s, hs, rfl⟩; obtain ⟨i, j, hi, hj, h1, h2, hg, rfl⟩ := mem_shiftsN.1 hs
  have h2' : (unrL n k x).getD j false = true := by simpa using h2
  rw [hn] at hi hj; obtain ⟨e1, e2, e3⟩ := edge_lt hk hk2 hx hj hi h2' h1
  unfold backN
  dsimp only; rw [Int.toNat_natCast, Int.toNat_natCast]; refine ⟨e1, i, j, hi, hj, ?_, ?_, hg, ?_⟩
  ·rw [e2, moveL_get (by omega) (by omega), if_pos rfl]
  ·rw [e2, moveL_get (by omega) (by omega)]
   split
   ·rename_i e; rw [e] at h2'; rw [h2'] at h1; cases h1
   ·rw [if_pos rfl]
  ·obtain ⟨hs', ht'⟩ := unrL_right hk hk2 hx; rw [e2, e3, moveL_inv (by omega) (by omega) h2' h1, moveT_inv ht' h1]; exact rank_unr hk hk2 hx
 ·rintro ⟨hy, i, j, hi, hj, h1, h2, hg, he⟩; have hly := unrL_len hy; obtain ⟨e1, e2, e3⟩ := edge_lt hk hk2 hy hi hj h1 h2; rw [he] at e1 e2 e3; refine ⟨⟨(i : Int), (j : Int)⟩, mem_shiftsN.2 ⟨i, j, by omega, by omega, ?_, ?_, hg, rfl⟩, ?_⟩
  ·rw [e2, moveL_get (by omega) (by omega)]
   split
   ·rename_i e; rw [e] at h1; rw [h1] at h2; cases h2
   ·rw [if_pos rfl]
  ·rw [e2, moveL_get (by omega) (by omega), if_pos rfl]; simp
  ·unfold backN
   dsimp only; obtain ⟨hs', ht'⟩ := unrL_right hk hk2 hy; rw [Int.toNat_natCast, Int.toNat_natCast, e2, e3, moveL_inv (by omega) (by omega) h1 h2, moveT_inv ht' h2]; exact rank_unr hk hk2 hy
end
end Go.Proofs.Ytogmjilaiopjmaa.P
end
section
namespace Go.Proofs.Ytogmjilaiopjmaa.P
open Go.RowKit
theorem reachP_sum (st : St) (y : Nat) (v : Int) (h : y < st.1.length) (hv : 0 ≤ v) : neg (reachP st y v).1 + (reachP st y v).2.length = neg st.1 + st.2.length := by
 unfold reachP
 split
 ·rename_i hn
  have := neg_set st.1 y v h hn hv; simp only [List.length_append, List.length_singleton]
  omega
 ·rfl
section
variable {W H D : Int} {K O r : List Int} {n k : Nat} {tgt : Nat → Prop}
theorem backs_relax (hk : 1 ≤ k) (hk2 : k ≤ n) (hn : r.length = n) (hn24 : n ≤ 24) (hm : cntN n k ≤ 24576) {x : Nat} (hx : x < cntN n k) {d : Int} {p : Nat} : ∀ (ss : List S51) (st : St) (seen : List Nat), Mid (cntN n k) tgt (predN W H D K O r n k) x d seen p st → (∀ s, s ∈ ss → s ∈ shiftsN W H D K O r (unrL n k x) false) →
  backsP (unrL n k x) (unrT n k x : Int) x st ss = some (relax d st (ss.map (backN n k x))) ∧ Mid (cntN n k) tgt (predN W H D K O r n k) x d (seen ++ ss.map (backN n k x)) p (relax d st (ss.map (backN n k x))) ∧ neg (relax d st (ss.map (backN n k x))).1 + (relax d st (ss.map (backN n k x))).2.length = neg st.1 + st.2.length
 | [], st, seen, i, _ => ⟨rfl, by simpa [relax] using i, rfl⟩
 | s :: ss, st, seen, i, hs => by
  have hsm := hs s (by simp); have hb : backN n k x s ∈ predN W H D K O r n k x := List.mem_map.2 ⟨s, hsm, rfl⟩; have hlt := ((mem_predN hk hk2 hn hx).1 hb).1; have hmid := i.step hlt hb; obtain ⟨a, b, ha, hbb, h1, h2, hg, rfl⟩ := mem_shiftsN.1 hsm
  have h2' : (unrL n k x).getD b false = true := by simpa using h2
  have hl := unrL_len hx; rw [hn] at ha hbb; obtain ⟨hsh, ht⟩ := unrL_right hk hk2 hx; have hT := unrT_lt hx; obtain ⟨q1, q2⟩ := moveT_right (l := unrL n k x) (t := unrT n k x) (i := b) (j := a) (by omega) (by omega) (by omega) ht; have hbud := i.budget; have hdp := i.dp; have hd0 := i.d0; have hdd := i.hd; have hlen := i.len
  have eB : backN n k x ⟨(a : Int), (b : Int)⟩ = rankN (moveL (unrL n k x) b a) (moveT (unrT n k x) b a) := by
   unfold backN
   dsimp only; rw [Int.toNat_natCast, Int.toNat_natCast]
  have eP : backP (unrL n k x) (unrT n k x : Int) x st ⟨(a : Int), (b : Int)⟩ = some (reachP st (backN n k x ⟨(a : Int), (b : Int)⟩) (d + 1)) := by
   unfold backP
   dsimp only; rw [do_move (by omega) (by omega) (by omega) h2' h1, Option.bind_some]; dsimp only; rw [rank_f (by rw [moveL_len]; omega) (by rw [moveL_len]; exact q1) q2, Option.bind_some, Int.toNat_natCast, ← eB, hdd, if_pos ⟨by rw [hlen]; exact hlt, hd0, by omega, by omega⟩]
  obtain ⟨r1, r2, r3⟩ := backs_relax hk hk2 hn hn24 hm hx ss _ _ hmid (fun z hz => hs z (by simp [hz])); refine ⟨?_, ?_, ?_⟩
  ·simp only [backsP, eP, Option.bind_some]; exact r1
  ·rw [List.append_assoc, List.singleton_append] at r2; exact r2
  ·rw [List.map_cons]
   show neg (relax d (reachP st (backN n k x ⟨(a : Int), (b : Int)⟩) (d + 1)) (ss.map (backN n k x))).1 + _ = _
   rw [show relax d st (backN n k x ⟨(a : Int), (b : Int)⟩ :: ss.map (backN n k x)) = relax d (reachP st (backN n k x ⟨(a : Int), (b : Int)⟩) (d + 1)) (ss.map (backN n k x)) from rfl, r3, reachP_sum _ _ _ (by rw [hlen]; exact hlt) (by omega)]
theorem bfs_ok (hf : FloorOk W H D K O) (hs : r.Pairwise (· < ·)) (hk : 1 ≤ k) (hk2 : k ≤ n) (hn : r.length = n) (hn24 : n ≤ 24) (hm : cntN n k ≤ 24576) : ∀ (f : Nat) (out : List Int) (q : List Nat) (p : Nat), Inv (cntN n k) tgt (predN W H D K O r n k) out q p → neg out + q.length + 1 ≤ f →
  ∃ out' p', bfsP W H D K O r n k f out q = some out' ∧ Inv (cntN n k) tgt (predN W H D K O r n k) out' [] p'
 | 0, out, q, p, _, h => by omega
 | f + 1, out, [], p, i, _ => ⟨out, p, rfl, i⟩
 | f + 1, out, x :: q, p, i, h => by
  have hx := (i.qr x (by simp)).1; have hl := unrL_len hx; have hmid := Mid.start i; obtain ⟨r1, r2, r3⟩ := backs_relax (W := W) (H := H) (D := D) (K := K) (O := O) (r := r) (tgt := tgt) hk hk2 hn hn24 hm hx (shiftsN W H D K O r (unrL n k x) false) _ _ hmid (fun s hs => hs); rw [List.nil_append] at r2; have hfin := Mid.finish (st := relax _ _ _) r2 (fun z hz y hy => ((mem_predN hk hk2 hn hz).1 hy).1)
  have hS : layout_shifts.f W H D K O r (unrL n k x) (unrT n k x : Int) false = some (shiftsN W H D K O r (unrL n k x) false) := by
   unfold layout_shifts.f
   rw [if_pos ⟨hf, hs, by omega, by omega, by omega, by omega⟩]
  obtain ⟨out', p', e1, e2⟩ := bfs_ok hf hs hk hk2 hn hn24 hm f _ _ _ hfin (by simp only [List.length_cons] at h; rw [r3]; dsimp only; omega); refine ⟨out', p', ?_, e2⟩; simp only [bfsP]; rw [if_pos ⟨hx, i.len⟩, hS, Option.bind_some, r1, Option.bind_some]; exact e1
theorem neg_set2 : ∀ (l : List Int) (i : Nat) (v : Int), i < l.length → 0 ≤ l.getD i 0 → v < 0 → neg (l.set i v) = neg l + 1
 | [], i, v, h, _, _ => by simp at h
 | a :: l, 0, v, _, h, hv => by
  simp at h
  have h2 : ¬ a < 0 := by omega
  simp [neg, h2, hv]
 | a :: l, i + 1, v, h, h', hv => by
  have := neg_set2 l i v (by simpa using h) (by simpa using h') hv
  unfold neg at this ⊢
  rw [List.set_cons_succ, List.countP_cons, List.countP_cons]
  omega
theorem init_spec (g : Int) : ∀ i, i ≤ cntN n k → let st := initP n k g i
  (∀ x, x < cntN n k → st.1.getD x 0 = if x < i ∧ ¬ (unrT n k x : Int) = g then -1 else 0) ∧ (∀ a, a ∈ st.2 ↔ a < i ∧ (unrT n k a : Int) = g) ∧ neg st.1 + st.2.length = i
 | 0, _ => by
  refine ⟨fun x hx => ?_, fun a => ?_, ?_⟩
  ·rw [if_neg (by omega)]
   simp [initP, List.getD_eq_getElem?_getD, List.getElem?_replicate, hx]
  ·simp [initP]
  ·simp [initP, neg, List.countP_replicate]
 | i + 1, hi => by
  obtain ⟨h1, h2, h3⟩ := init_spec g i (by omega); have hlen := initP_len n k g i
  have hi0 : (initP n k g i).1.getD i 0 = 0 := by rw [h1 i (by omega), if_neg (by omega)]
  have hneg := neg_set2 (initP n k g i).1 i (-1) (by omega) (by omega) (by omega); have hg : ∀ x, ((initP n k g i).1.set i (-1)).getD x 0 = if x = i then -1 else (initP n k g i).1.getD x 0 := fun x => getD_set _ _ _ _ (by omega); simp only [initP]
  by_cases ht : (unrT n k i : Int) = g
  ·rw [if_pos ht]
   unfold reachP
   rw [if_pos (by show ((initP n k g i).1.set i (-1)).getD i 0 < 0; rw [hg, if_pos rfl]; omega)]; dsimp only; have hneg2 := neg_set ((initP n k g i).1.set i (-1)) i 0 (by simpa using (show i < (initP n k g i).1.length by omega)) (by rw [hg, if_pos rfl]; omega) (by omega); refine ⟨fun x hx => ?_, fun a => ?_, ?_⟩
   ·rw [getD_set _ _ _ _ (by simpa using (show i < (initP n k g i).1.length by omega)), hg]
    by_cases e : x = i
    ·subst e; rw [if_pos rfl, if_neg (by simp [ht])]
    ·rw [if_neg e, if_neg e, h1 x hx]
     have : (x < i ∧ ¬ (unrT n k x : Int) = g) ↔ (x < i + 1 ∧ ¬ (unrT n k x : Int) = g) := by omega
     simp only [this]
   ·rw [List.mem_append, h2, List.mem_singleton]
    constructor
    ·rintro (⟨a1, a2⟩ | rfl)
     ·exact ⟨by omega, a2⟩
     ·exact ⟨by omega, ht⟩
    ·rintro ⟨a1, a2⟩
     by_cases e : a = i
     ·exact .inr e
     ·exact .inl ⟨by omega, a2⟩
   ·rw [List.length_append, List.length_singleton]
    omega
  ·rw [if_neg ht]; dsimp only; refine ⟨fun x hx => ?_, fun a => ?_, ?_⟩
   ·rw [hg]
    by_cases e : x = i
    ·subst e; rw [if_pos rfl, if_pos ⟨by omega, ht⟩]
    ·rw [if_neg e, h1 x hx]
     have : (x < i ∧ ¬ (unrT n k x : Int) = g) ↔ (x < i + 1 ∧ ¬ (unrT n k x : Int) = g) := by omega
     simp only [this]
   ·rw [h2]
    constructor
    ·rintro ⟨a1, a2⟩; exact ⟨by omega, a2⟩
    ·rintro ⟨a1, a2⟩; refine ⟨?_, a2⟩
     rcases Nat.lt_or_ge a i with h | h
     ·exact h
     ·obtain rfl : a = i := by omega
      exact absurd a2 ht
   ·omega
theorem init_inv (g : Int) : Inv (cntN n k) (fun x => (unrT n k x : Int) = g) (predN W H D K O r n k) (initP n k g (cntN n k)).1 (initP n k g (cntN n k)).2 0 := by
 obtain ⟨h1, h2, h3⟩ := init_spec (n := n) (k := k) g (cntN n k) (Nat.le_refl _)
 have hv : ∀ x, x < cntN n k → (initP n k g (cntN n k)).1.getD x 0 = if (unrT n k x : Int) = g then 0 else -1 := fun x hx => by
  rw [h1 x hx]
  by_cases e : (unrT n k x : Int) = g
  ·rw [if_neg (fun h => h.2 e), if_pos e]
  ·rw [if_pos ⟨hx, e⟩, if_neg e]
 have hq : ∀ a, a ∈ (initP n k g (cntN n k)).2 → a < cntN n k ∧ (initP n k g (cntN n k)).1.getD a 0 = 0 := fun a ha => by
  obtain ⟨a1, a2⟩ := (h2 a).1 ha; exact ⟨a1, by rw [hv a a1, if_pos a2]⟩
 refine ⟨initP_len n k g _, fun x hx => ?_, fun x hx => ?_, fun a ha => ?_, ?_, fun a ha y hy => ?_, fun x hx h0 => ?_, fun x hx h0 => ?_, fun x hx => ?_, by omega⟩
 ·rw [hv x hx]; split <;> omega
 ·rw [hv x hx]
  constructor
  ·intro h; by_cases e : (unrT n k x : Int) = g
   ·exact e
   ·rw [if_neg e] at h; omega
  ·intro h; rw [if_pos h]
 ·obtain ⟨a1, a2⟩ := hq a ha; exact ⟨a1, by omega⟩
 ·exact List.Pairwise.imp_of_mem (R := fun _ _ => True) (fun {a b} ha hb _ => by rw [(hq a ha).2, (hq b hb).2]; exact Int.le_refl _) (List.pairwise_of_forall (fun _ _ => trivial))
 ·rw [(hq a ha).2, hv y hy]
  split <;> omega
 ·rw [hv x hx] at h0
  by_cases e : (unrT n k x : Int) = g
  ·exact .inl ((h2 x).2 ⟨hx, e⟩)
  ·rw [if_neg e] at h0; omega
 ·rw [hv x hx] at h0
  split at h0 <;> omega
 ·rw [hv x hx]; split <;> omega
end
structure TableOk (W H D : Int) (K O r : List Int) (n k : Nat) (g : Int) (out : List Int) : Prop where
 len : out.length = cntN n k
 lo : ∀ x, x < cntN n k → -1 ≤ out.getD x 0
 hi : ∀ x, x < cntN n k → out.getD x 0 ≤ 100000
 zero : ∀ x, x < cntN n k → (out.getD x 0 = 0 ↔ (unrT n k x : Int) = g)
 closed : ∀ x y, x < cntN n k → y < cntN n k → Edge W H D K O r n k y x → 0 ≤ out.getD x 0 → 0 ≤ out.getD y 0 ∧ out.getD y 0 ≤ out.getD x 0 + 1
 next : ∀ x, x < cntN n k → 0 < out.getD x 0 → ∃ z, z < cntN n k ∧ Edge W H D K O r n k x z ∧ out.getD z 0 = out.getD x 0 - 1
end Go.Proofs.Ytogmjilaiopjmaa.P
end
section
namespace Go.Proofs.Ytogmjilaiopjmaa.P
open Go.RowKit Go.Proofs.YtogmjilaiopjmaaW.PrintWords
theorem few_f (W H D : Int) (K O : List Int) (m : Int) : ∃ b, taquinref07_Few.f W H D K O m = some b := by
 unfold taquinref07_Few.f
 split <;> exact ⟨_, rfl⟩
theorem sorted_of {r : List Int} (h : ∀ j, j < r.length → 0 < j → r.getD (j - 1) 0 < r.getD j 0) : r.Pairwise (· < ·) := by
 rw [List.pairwise_iff_getElem]
 have key : ∀ d i, i + d + 1 < r.length → r.getD i 0 < r.getD (i + d + 1) 0 := by
  intro d
  induction d with
  | zero => intro i hi; exact h (i + 0 + 1) hi (by omega)
  | succ d ih =>
   intro i hi; have h1 := ih i (by omega); have h2 := h (i + (d + 1) + 1) hi (by omega); rw [show i + (d + 1) + 1 - 1 = i + d + 1 by omega] at h2
   omega
 intro i j hi hj hij; have := key (j - i - 1) i (by omega); rw [show i + (j - i - 1) + 1 = j by omega] at this
 simpa [List.getD_eq_getElem?_getD, hi, hj] using this
end Go.Proofs.Ytogmjilaiopjmaa.P
end
section
namespace Go.Proofs.Ytogmjilaiopjmaa.P
open Go.RowKit Go.Proofs.YtogmjilaiopjmaaW.PrintWords Go.Proofs.YtogmjilaiopjmaaW.PrintLast Go.Proofs.YtogmjilaiopjmaaW.PrintMore
theorem floorR_l0 (W H D : Int) (K O : List Int) (n : Nat) (hn : n ≤ 1000000) (hK : K.length = n) (hO : O.length = n) : ∀ (d k i : Nat), i + d = n → d < k → ∃ b, floor_Right.l0 k K (n : Int) (i : Int) W H D K O = some b
 | d, 0, i, h, h' => by omega
 | d, k + 1, i, h, h' => by
  simp only [floor_Right.l0]
  by_cases hi : i < n
  ·rw [if_pos (by omega), if_pos (by omega), if_pos (by omega)]
   split
   ·exact ⟨_, rfl⟩
   ·split
    ·exact ⟨_, rfl⟩
    ·rw [if_pos (by omega)]
     split
     ·exact ⟨_, rfl⟩
     ·split
      ·exact ⟨_, rfl⟩
      ·rw [wrap_id (by omega) (by omega), show (i : Int) + 1 = ((i + 1 : Nat) : Int) by omega]; exact floorR_l0 W H D K O n hn hK hO (d - 1) k (i + 1) (by omega) (by omega)
  ·rw [if_neg (by omega)]; exact ⟨_, rfl⟩
theorem floorR (W H D : Int) (K O : List Int) : ∃ b, floor_Right.f 5000 W H D K O = some b ∧ (b = true → FloorOk W H D K O) := by
 have no : ∃ b, floor_Right.j0 5000 true W H D K O = some b ∧ (b = true → FloorOk W H D K O) := ⟨false, by simp [floor_Right.j0], fun h => by cases h⟩; have nj : ∃ b, floor_Right.j1 4999 true W H D K O = some b ∧ (b = true → FloorOk W H D K O) := ⟨false, by simp [floor_Right.j1], fun h => by cases h⟩
 unfold floor_Right.f
 split
 ·exact no
 rename_i w1
 have hmn : 1 ≤ W ∧ 1 ≤ H ∧ 1 ≤ D := by unfold mn at w1; repeat' split at w1 <;> omega
 split
 ·exact no
 rename_i h1
 by_cases h2 : mx W H > 4096
 ·rw [decide_eq_true h2]; exact no
 rw [decide_eq_false h2]
 have hmx : W ≤ 4096 ∧ H ≤ 4096 := by unfold mx at h2; split at h2 <;> omega
 have b1 : 1 * 1 ≤ W * H := Int.mul_le_mul (by omega) (by omega) (by omega) (by omega); have b2 : W * H ≤ 4096 * 4096 := Int.mul_le_mul (by omega) (by omega) (by omega) (by omega); have b3 : 1 * 1 ≤ W * H * D := Int.mul_le_mul (by omega) (by omega) (by omega) (by omega); have b4 : W * H * D ≤ (4096 * 4096) * 4 := Int.mul_le_mul (by omega) (by omega) (by omega) (by omega); have e1 : wrap64 (W * H) = W * H := wrap_id (by omega) (by omega)
 have e2 : wrap64 (wrap64 (W * H) * D) = W * H * D := by rw [e1]; exact wrap_id (by omega) (by omega)
 show ∃ b, floor_Right.j0 (4999 + 1) false W H D K O = some b ∧ _
 simp only [floor_Right.j0]
 unfold floor_size.f
 rw [e2, if_neg (by simp), Option.bind_some]
 split
 ·exact nj
 rename_i s1
 split
 ·rename_i k1
  by_cases o1 : (O.length : Int) = W * H * D
  ·rw [show ((O.length : Int) != W * H * D) = false by simp [o1]]
   show ∃ b, floor_Right.j1 (4998 + 1) false W H D K O = some b ∧ _
   simp only [floor_Right.j1]; rw [if_neg (by simp)]; obtain ⟨b, hb⟩ := floorR_l0 W H D K O K.length (by omega) rfl (by omega) K.length 4998 0 (by omega) (by omega); exact ⟨b, hb, fun _ => ⟨by omega, by omega, by omega, by omega, by omega, by omega, by omega, k1, o1⟩⟩
  ·rw [show ((O.length : Int) != W * H * D) = true by simp [o1]]; exact nj
 ·exact nj
theorem regionR_l0 (r : List Int) (hr : r.length ≤ 1000000) : ∀ (d k i : Nat), i + d = r.length → d < k → ∃ b, region_Right.l0 k r r (r.length : Int) (i : Int) = some b ∧ (b = true → ∀ j, i ≤ j → j < r.length → 0 ≤ r.getD j 0 ∧ r.getD j 0 < 4096 ∧ (0 < j → r.getD (j - 1) 0 < r.getD j 0))
 | d, 0, i, h, h' => by omega
 | d, k + 1, i, h, h' => by
  simp only [region_Right.l0]
  by_cases hi : i < r.length
  ·rw [if_pos (by omega), if_pos (by omega), if_pos (by omega), rd_nat]
   unfold region_isCell.f
   split
   rotate_left; (rw [Option.bind_some, if_neg (by simp)]; exact ⟨false, rfl, fun h => by cases h⟩)
   rename_i a1
   rw [Option.bind_some]
   split
   rotate_left; (exact ⟨false, rfl, fun h => by cases h⟩)
   rename_i a2
   have a2' := of_decide_eq_true a2; obtain ⟨b, hb, hs⟩ := regionR_l0 r hr (d - 1) k (i + 1) (by omega) (by omega); rw [wrap_id (x := (i : Int) + 1) (by omega) (by omega), show (i : Int) + 1 = ((i + 1 : Nat) : Int) by omega]
   split
   ·rename_i a3
    rw [wrap_id (x := (i : Int) - 1) (by omega) (by omega), show (i : Int) - 1 = ((i - 1 : Nat) : Int) by omega, if_pos (by omega), if_pos (by omega), rd_nat]
    split
    ·exact ⟨false, rfl, fun h => by cases h⟩
    rename_i a4
    refine ⟨b, hb, fun ht j hj hj2 => ?_⟩
    by_cases e : j = i
    ·subst e; exact ⟨by omega, by omega, fun _ => by omega⟩
    ·exact hs ht j (by omega) hj2
   ·rename_i a3
    refine ⟨b, hb, fun ht j hj hj2 => ?_⟩
    by_cases e : j = i
    ·subst e; exact ⟨by omega, by omega, fun h0 => by omega⟩
    ·exact hs ht j (by omega) hj2
  ·rw [if_neg (by omega)]; exact ⟨true, rfl, fun _ j hj hj2 => by omega⟩
theorem regionR (r : List Int) (hr : r.length ≤ 1000) : ∃ b, region_Right.f 4999 r = some b ∧ (b = true → r.Pairwise (· < ·)) := by
 obtain ⟨b, hb, hs⟩ := regionR_l0 r (by omega) r.length 4999 0 (by omega) (by omega); exact ⟨b, hb, fun ht => sorted_of fun j hj h0 => (hs ht j (by omega) hj).2.2 h0⟩
theorem layoutR (l : List Bool) (t : Int) : ∃ b, layout_Right.f l t = some b ∧ (b = true → okL l t = true) := by
 unfold layout_Right.f
 split
 rotate_left; (exact ⟨false, rfl, fun h => by cases h⟩)
 split
 rotate_left; (exact ⟨false, rfl, fun h => by cases h⟩)
 split
 rotate_left; (exact ⟨false, rfl, fun h => by cases h⟩)
 split
 rotate_left; (exact ⟨false, rfl, fun h => by cases h⟩); refine ⟨_, rfl, fun h => okL_iff.2 ⟨by omega, by omega, by omega, by omega, ?_⟩⟩; exact h
def Given (W H D : Int) (K O r : List Int) (l : List Bool) (t : Int) (most : Nat) : Prop := FloorOk W H D K O ∧ r.Pairwise (· < ·) ∧ r.length ≤ most ∧ okL l t = true ∧ l.length = r.length
theorem given_f (W H D : Int) (K O r : List Int) (l : List Bool) (t : Int) (most : Nat) (hm : most ≤ 100) : ∃ b, taquinlaw27_given.f 5001 W H D K O r l t (most : Int) = some b ∧ (b = true → Given W H D K O r l t most) := by
 have nj : ∃ b, taquinlaw27_given.j0 5001 r true W H D K O = some b ∧ (b = true → Given W H D K O r l t most) := ⟨false, by simp [taquinlaw27_given.j0], fun h => by cases h⟩
 unfold taquinlaw27_given.f
 obtain ⟨b1, h1⟩ := few_f W H D K O 60; rw [h1, Option.bind_some]
 split
 rotate_left; (exact nj)
 split
 ·exact nj
 rename_i e2
 split
 rotate_left; (exact nj)
 rename_i e3
 obtain ⟨b4, h4, f4⟩ := layoutR l t; rw [h4, Option.bind_some]
 cases b4 with
 | false => exact nj
 | true =>
  show ∃ b, taquinlaw27_given.j0 (5000 + 1) r false W H D K O = some b ∧ _
  simp only [taquinlaw27_given.j0]; rw [if_neg (by simp)]; obtain ⟨b5, h5, f5⟩ := floorR W H D K O; rw [h5, Option.bind_some]
  split
  rotate_left; (exact ⟨false, rfl, fun h => by cases h⟩)
  rename_i e5
  obtain ⟨b6, h6, f6⟩ := regionR r (by omega); have h6' : region_Right.f 5000 r = some b6 := region_Right.mono _ _ _ h6; rw [h6', Option.bind_some]; exact ⟨b6, rfl, fun h => ⟨f5 e5, f6 h, by omega, f4 rfl, by omega⟩⟩
end Go.Proofs.Ytogmjilaiopjmaa.P
end
section
namespace Go.Proofs.Ytogmjilaiopjmaa.P
open Go.RowKit Go.Proofs.YtogmjilaiopjmaaW.PrintWords Go.Proofs.YtogmjilaiopjmaaW.PrintLast Go.Proofs.YtogmjilaiopjmaaW.PrintMore
attribute [local go_sem] max2_int min2_int max_two min_two max_three min_three max_four min_four
def layout_Backs.f (a0_0 : Int) (a0_1 : Int) (a0_2 : Int) (l0_3 : List Int) (l0_4 : List Int) (l1 : List Int) (l2_0 : List Bool) (a2_1 : Int) : Option ((List (S51))) := (layout_shifts.f a0_0 a0_1 a0_2 l0_3 l0_4 l1 l2_0 a2_1 false).bind fun t144 => (some t144)
set_option maxHeartbeats 8000000 in
set_option maxRecDepth 100000 in
theorem layout_Backs.calls (a0_0 : Int) (a0_1 : Int) (a0_2 : Int) (A0_3 : Option Addr) (c0_3 : Nat) (l0_3 : List Int) (A0_4 : Option Addr) (c0_4 : Nat) (l0_4 : List Int) (A1 : Option Addr) (c1 : Nat) (l1 : List Int) (A2_0 : Option Addr) (c2_0 : Nat) (l2_0 : List Bool) (a2_1 : Int) (r : List (S51)) (w : World) (hr0_3 : Kd.C (Kd.int .i64) w A0_3 l0_3.length l0_3) (hc0_3 : l0_3.length ≤ c0_3) (hr0_4 : Kd.C (Kd.int .i64) w A0_4 l0_4.length l0_4) (hc0_4 : l0_4.length ≤ c0_4) (hr1 : Kd.C (Kd.int .i64) w A1 l1.length l1) (hc1 : l1.length ≤ c1) (hr2_0 : Kd.C Kd.bool w A2_0 l2_0.length l2_0) (hc2_0 : l2_0.length ≤ c2_0) (h : layout_Backs.f a0_0 a0_1 a0_2 l0_3 l0_4 l1 l2_0 a2_1 = some r) :
  Calls Try.prog 56 #[.agg #[.int .i64 a0_0, .int .i64 a0_1, .int .i64 a0_2, .slice A0_3 l0_3.length c0_3, .slice A0_4 l0_4.length c0_4], .slice A1 l1.length c1, .agg #[.slice A2_0 l2_0.length c2_0, .int .i64 a2_1]] w fun e w' => ∃ v0_ : Value, e = .returned (v0_) ∧ Kd.R k51 51 w' w.heap.size (fun _ => True) v0_ r ∧ Below w.heap.size w w' := by
 have hu24 := Try.underlying24; have hu27 := Try.underlying27; have HR0_3 := ak hr0_3; have HC0_3 := ak hc0_3; clear hr0_3 hc0_3; have HR0_4 := ak hr0_4; have HC0_4 := ak hc0_4; clear hr0_4 hc0_4; have HR1 := ak hr1; have HC1 := ak hc1; clear hr1 hc1; have HR2_0 := ak hr2_0; have HC2_0 := ak hc2_0; clear hr2_0 hc2_0; have HB := ak (Below.refl w.heap.size w); have H : ((layout_shifts.f a0_0 a0_1 a0_2 l0_3 l0_4 l1 l2_0 a2_1 false).bind fun t144 => (some t144)) = some r := h; clear h; replace H := Option.bind_eq_some_iff.mp H; obtain ⟨t144, A40, H⟩ := H
 replace H : (some t144) = some r := H
 have A4 := ak A40; clear A40; obtain rfl := Option.some.inj H
 go_enter Try.func56, Try.ntmps56
 go_wp2_with (first | ((with_reducible refine gate_dst (N := 3) rfl ?_); refine box_event ?hg (N := 3) ?hd (cs := #[.int .i64 a0_0, .int .i64 a0_1, .int .i64 a0_2, .slice A0_3 l0_3.length c0_3, .slice A0_4 l0_4.length c0_4]) (t := 24) ?hr ?_; (case hd => rfl); (case hg => rfl); (case hr => first | (go_simp; done) | (go_simp; rfl)); intro gb142 hg w5 hbox hb; have BK142 := ak (hbox); have GW142 := gw_ hg HB.1.size; have GE142 := gw_ hg HB.1.size; replace HB := ak (below_step HB.1 hb); clear hb hbox hg) | ((with_reducible refine gate_dst (N := 5) rfl ?_); refine box_event ?hg (N := 5) ?hd (cs := #[.slice A2_0 l2_0.length c2_0, .int .i64 a2_1]) (t := 27) ?hr ?_; (case hd => rfl); (case hg => rfl); (case hr => first | (go_simp; done) | (go_simp; rfl)); intro gb143 hg w6 hbox hb; have n0_ := ak (blk_below BK142.1 hb); have n1_ := ak (below_step HB.1 hb); have n2_ := ak (hbox); have n3_ := gw_ hg HB.1.size; have n4_ := gw_ hg HB.1.size; have n5_ := ak ((by rw [hg]; exact Nat.ne_of_lt (blk_lt BK142.1) : gb142 ≠ gb143)); have n6_ := ak ((by rw [hg]; exact Nat.ne_of_gt (blk_lt BK142.1) : gb143 ≠ gb142)); clear BK142 HB; have BK142 := n0_; have HB := n1_; have BK143 := n2_; have GW143 := n3_; have GE143 := n4_; have NB142_143 := n5_; have NB143_142 := n6_; clear n0_ n1_ n2_ n3_ n4_ n5_ n6_; clear hb hbox hg; have hnb7 := NB142_143.1; have hnc7 := NB143_142.1; obtain ⟨hcz8_0, hcz8_1, hcz8_2, hcz8_3, hcz8_4, hfz8_0, hfz8_1, hfz8_2, hfz8_3, hfz8_4⟩ := bk5 BK142.1; obtain ⟨hcz9_0, hcz9_1, hfz9_0, hfz9_1⟩ := bk2 BK143.1) | ((with_reducible refine gate_callee (f := 65) rfl ?_); refine goesL_ (some 10) rfl rfl Try.func65 (by kernel_rfl) rfl #[.agg #[.int .i64 a0_0, .int .i64 a0_1, .int .i64 a0_2, .slice A0_3 l0_3.length c0_3, .slice A0_4 l0_4.length c0_4], .slice A1 l1.length c1, .agg #[.slice A2_0 l2_0.length c2_0, .int .i64 a2_1], .bool false] rfl (sm_) ?_; (with_reducible refine (layout_shifts.calls a0_0 a0_1 a0_2 _ _ l0_3 _ _ l0_4 _ _ l1 _ _ l2_0 a2_1 false t144 _ ?side1 ?side2 ?side3 ?side4 ?side5 ?side6 ?side7 ?side8 A4.1).mono ?_); (case side1 => exact (Kd.C_below HR0_3.1 HB.1)); (case side2 => exact HC0_3.1); (case side3 => exact (Kd.C_below HR0_4.1 HB.1)); (case side4 => exact HC0_4.1); (case side5 => exact (Kd.C_below HR1.1 HB.1)); (case side6 => exact HC1.1); (case side7 => exact (Kd.C_below HR2_0.1 HB.1)); (case side8 => exact HC2_0.1); rintro e w10 ⟨v145, rfl, ho0, hb⟩; refine ⟨_, rfl, ?_⟩; replace BK142 := ak (blk_below BK142.1 hb); replace BK143 := ak (blk_below BK143.1 hb); have HO146 := ak (Kd.R_lower ho0 HB.1.size); replace HB := ak (below_step HB.1 hb); (try clear hb); (try clear ho0)))
 go_ret
 exact ⟨_, er_, by (with_reducible repeat (first | apply Kd.R_alloc | apply Kd.R_drewN | apply Kd.R_drew)); exact HO146.1, hq2_ HB.1 GE142.1 GE143.1⟩
def puzzle_distances.f (k : Nat) (a0_0 : Int) (a0_1 : Int) (a0_2 : Int) (l0_3 : List Int) (l0_4 : List Int) (l1 : List Int) (l2_0 : List Bool) (a2_1 : Int) (a3 : Int) : Option (List Int × Int × Int) := (layout_Shelves.f k l2_0 a2_1).bind fun t149 => ((puzzle_Table.f a0_0 a0_1 a0_2 l0_3 l0_4 l1 t149 a3).bind fun bt150 => (if bt150.2 = 0 then ((layout_Rank.f l2_0 a2_1).bind fun t154 => (if 0 ≤ t154 then (if t154 < (bt150.1.length : Int) then (if (rd bt150.1 t154) < 0 then (some (([] : List Int), 0, 14)) else (some (bt150.1, rd bt150.1 t154, 0))) else (none)) else (none))) else (some (([] : List Int), 0, bt150.2))))
def puzzle_Least.f (k : Nat) (a0_0 : Int) (a0_1 : Int) (a0_2 : Int) (l0_3 : List Int) (l0_4 : List Int) (l1 : List Int) (l2_0 : List Bool) (a2_1 : Int) (a3 : Int) : Option (Int × Int) := (puzzle_distances.f k a0_0 a0_1 a0_2 l0_3 l0_4 l1 l2_0 a2_1 a3).bind fun bt158 => (some (bt158.2.1, bt158.2.2))
def layout_Shifts.f (a0_0 : Int) (a0_1 : Int) (a0_2 : Int) (l0_3 : List Int) (l0_4 : List Int) (l1 : List Int) (l2_0 : List Bool) (a2_1 : Int) : Option ((List (S51))) := (layout_shifts.f a0_0 a0_1 a0_2 l0_3 l0_4 l1 l2_0 a2_1 true).bind fun t165 => (some t165)
end Go.Proofs.Ytogmjilaiopjmaa.P
end
section
namespace Go.Proofs.Ytogmjilaiopjmaa.P
open Go.RowKit Go.Proofs.YtogmjilaiopjmaaW.PrintWords Go.Proofs.YtogmjilaiopjmaaW.PrintLast Go.Proofs.YtogmjilaiopjmaaW.PrintMore
structure Lay (n k : Nat) (l : List Bool) (t x : Nat) : Prop where
 len : l.length = n
 lt : t < n
 at_ : l.getD t false = true
 sh : shel l = k
 rank : rankN l t = x
section
variable {n k : Nat} {l : List Bool} {t x : Nat}
theorem Lay.k1 (h : Lay n k l t x) : 1 ≤ k := by rw [← h.sh]; exact shel_pos h.at_
theorem Lay.x_lt (h : Lay n k l t x) : x < cntN n k := by
 have := rank_lt (l := l) (t := t) (by rw [h.len]; exact h.lt) h.at_
 rwa [h.len, h.sh, h.rank] at this
theorem Lay.unr (h : Lay n k l t x) : unrL n k x = l ∧ unrT n k x = t := by
 have := unr_rank (l := l) (t := t) (by rw [h.len]; exact h.lt) h.at_; rw [h.len, h.sh, h.rank] at this; exact ⟨this.2, this.1⟩
theorem Lay.rank_f (h : Lay n k l t x) (hn : n ≤ 24) : layout_Rank.f l (t : Int) = some (x : Int) := by
 rw [P.rank_f (by rw [h.len]; exact hn) (by rw [h.len]; exact h.lt) h.at_, h.rank]
variable {W H D : Int} {K O r : List Int}
end
end Go.Proofs.Ytogmjilaiopjmaa.P
end
section
namespace Go.Proofs.Ytogmjilaiopjmaa.P
structure Sub (c l : List Bool) : Prop where
 len : c.length = l.length
 le : ∀ x, c.getD x false = true → l.getD x false = true
theorem Sub.refl (l : List Bool) : Sub l l := ⟨rfl, fun _ h => h⟩
theorem Sub.trans {a b c : List Bool} (h : Sub a b) (k : Sub b c) : Sub a c := ⟨h.len.trans k.len, fun x hx => k.le x (h.le x hx)⟩
theorem shel_drop (l : List Bool) (i : Nat) (h : i < l.length) : shel (l.drop i) = (if l.getD i false then 1 else 0) + shel (l.drop (i + 1)) := by
 rw [List.drop_eq_getElem_cons h, shel_cons, List.getD_eq_getElem?_getD, List.getElem?_eq_getElem h]; rfl
def oth2 (c : List Bool) (t i : Nat) : Nat := shel ((c.set t false).drop i)
theorem oth2_end (c : List Bool) (t i : Nat) (h : c.length ≤ i) : oth2 c t i = 0 := by
 unfold oth2
 rw [List.drop_of_length_le (by simpa using h)]; rfl
theorem oth2_step (c : List Bool) (t i : Nat) (h : i < c.length) : oth2 c t i = (if c.getD i false = true ∧ i ≠ t then 1 else 0) + oth2 c t (i + 1) := by
 unfold oth2
 rw [shel_drop _ _ (by simpa using h)]
 by_cases e : i = t
 ·subst e; rw [getB_set _ _ _ _ h]
  simp
 ·have : (c.set t false).getD i false = c.getD i false := by
   have e' : ¬ t = i := fun h' => e h'.symm
   simp [List.getD_eq_getElem?_getD, List.getElem?_set, e']
  rw [this]
  simp [e]
theorem only_get (t i : Nat) (l : List Bool) (x : Nat) (hx : x < l.length) : (only t i l).getD x false = if x < i then l.getD x false else decide (x = t) := by
 unfold only
 simp [List.getD_eq_getElem?_getD, hx]
theorem getB_out {l : List Bool} {x : Nat} (h : l.length ≤ x) : l.getD x false = false := by
 simp [List.getD_eq_getElem?_getD, List.getElem?_eq_none h]
structure ChF (t j i : Nat) (l c : List Bool) : Prop where
 len : c.length = l.length
 pre : ∀ x, x < i → c.getD x false = l.getD x false
 sub : ∀ x, i ≤ x → c.getD x false = true → l.getD x false = true
 tgt : c.getD t false = true
 cnt : oth2 c t i = j
theorem oth2_zero {c : List Bool} {t i : Nat} : oth2 c t i = 0 → ∀ x, i ≤ x → x < c.length → x ≠ t → c.getD x false = false := by
 generalize hd : c.length - i = d
 induction d generalizing i with
 | zero => intro _ x h1 h2 _; omega
 | succ d ih =>
  intro h x h1 h2 h3; rw [oth2_step c t i (by omega)] at h
  by_cases e : x = i
  ·subst e
   by_cases q : c.getD x false = true
   ·rw [if_pos ⟨q, h3⟩] at h; omega
   ·simpa using q
  ·exact ih (i := i + 1) (by omega) (by split at h <;> omega) x (by omega) h2 h3
theorem mem_only {t i : Nat} {l c : List Bool} (ht : t < l.length) (hl : l.getD t false = true) : c = only t i l ↔ ChF t 0 i l c := by
 constructor
 ·rintro rfl
  have hz : ∀ d i', i' + d = l.length → i ≤ i' → oth2 (only t i l) t i' = 0 := by
   intro d
   induction d with
   | zero => intro i' h1 _; exact oth2_end _ _ _ (by rw [only_length]; omega)
   | succ d ih =>
    intro i' h1 h2; rw [oth2_step _ _ _ (by rw [only_length]; omega), ih (i' + 1) (by omega) (by omega), only_get t i l i' (by omega), if_neg (show ¬ i' < i by omega)]
    by_cases e : i' = t <;> simp [e]
  refine ⟨only_length _ _ _, fun x hx => ?_, fun x hx h => ?_, ?_, ?_⟩
  ·by_cases q : x < l.length
   ·rw [only_get _ _ _ _ q, if_pos hx]
   ·rw [getB_out (by rw [only_length]; omega), getB_out (by omega)]
  ·by_cases q : x < l.length
   ·rw [only_get _ _ _ _ q, if_neg (by omega)] at h
    have : x = t := by simpa using h
    rw [this]; exact hl
   ·rw [getB_out (by rw [only_length]; omega)] at h; cases h
  ·rw [only_get _ _ _ _ ht]
   split
   ·exact hl
   ·simp
  ·by_cases q : i ≤ l.length
   ·exact hz (l.length - i) i (by omega) (Nat.le_refl _)
   ·exact oth2_end _ _ _ (by rw [only_length]; omega)
 ·intro h; refine list_ext_getB (by rw [h.len, only_length]) fun x => ?_
  by_cases q : x < l.length
  ·rw [only_get _ _ _ _ q]
   by_cases hx : x < i
   ·rw [if_pos hx, h.pre x hx]
   ·rw [if_neg hx]
    by_cases e : x = t
    ·subst e; rw [h.tgt]; simp
    ·rw [oth2_zero h.cnt x (by omega) (by rw [h.len]; exact q) e]; simp [e]
  ·rw [getB_out (by rw [h.len]; omega), getB_out (by rw [only_length]; omega)]
theorem mem_chsGo {f : Nat → List Bool → List (List Bool)} {t j : Nat} (hf : ∀ (i : Nat) (l c : List Bool), t < l.length → l.getD t false = true → (c ∈ f i l ↔ ChF t j i l c)) :
  ∀ (m i : Nat) (l c : List Bool), t < l.length → l.getD t false = true → i + m = l.length → (c ∈ chsGo f t m i l ↔ ChF t (j + 1) i l c)
 | 0, i, l, c, ht, hl, hi => by
  constructor
  ·intro h; simp [chsGo] at h
  ·intro h; have := h.cnt; rw [oth2_end _ _ _ (by rw [h.len]; omega)] at this
   omega
 | m + 1, i, l, c, ht, hl, hi => by
  have hil : i < l.length := by omega
  unfold chsGo
  by_cases hc : l.getD i false = true ∧ i ≠ t
  ·rw [if_pos hc, List.mem_append, hf _ _ _ ht hl]; have e' : ∀ x, (l.set i false).getD x false = if x = i then false else l.getD x false := fun x => getB_set _ _ _ _ hil; rw [mem_chsGo hf m (i + 1) (l.set i false) c (by simpa using ht) (by rw [e', if_neg (Ne.symm hc.2)]; exact hl) (by simp; omega)]
   constructor
   ·rintro (h | h)
    ·refine ⟨h.len, fun x hx => h.pre x (by omega), fun x hx q => ?_, h.tgt, ?_⟩
     ·by_cases e : x = i
      ·subst e; exact hc.1
      ·exact h.sub x (by omega) q
     ·rw [oth2_step _ _ _ (by rw [h.len]; exact hil), h.cnt, if_pos ⟨by rw [h.pre i (by omega)]; exact hc.1, hc.2⟩]; omega
    ·refine ⟨by simpa using h.len, fun x hx => ?_, fun x hx q => ?_, h.tgt, ?_⟩
     ·rw [h.pre x (by omega), e', if_neg (by omega)]
     ·by_cases e : x = i
      ·subst e; exact hc.1
      ·have := h.sub x (by omega) q; rw [e', if_neg e] at this; exact this
     ·have hi0 : c.getD i false = false := by rw [h.pre i (by omega), e', if_pos rfl]
      rw [oth2_step _ _ _ (by rw [h.len]; simpa using hil), h.cnt, if_neg (by rw [hi0]; simp)]; omega
   ·intro h; have hs := h.cnt; rw [oth2_step _ _ _ (by rw [h.len]; exact hil)] at hs
    by_cases q : c.getD i false = true
    ·rw [if_pos ⟨q, hc.2⟩] at hs; refine .inl ⟨h.len, fun x hx => ?_, fun x hx => h.sub x (by omega), h.tgt, by omega⟩
     by_cases e : x = i
     ·subst e; rw [q, hc.1]
     ·exact h.pre x (by omega)
    ·rw [if_neg (fun a => q a.1)] at hs; refine .inr ⟨by simpa using h.len, fun x hx => ?_, fun x hx q' => ?_, h.tgt, by omega⟩
     ·rw [e']
      by_cases e : x = i
      ·subst e; rw [if_pos rfl]; simpa using q
      ·rw [if_neg e]; exact h.pre x (by omega)
     ·rw [e', if_neg (by omega)]; exact h.sub x (by omega) q'
  ·rw [if_neg hc, mem_chsGo hf m (i + 1) l c ht hl (by omega)]
   constructor
   ·intro h; refine ⟨h.len, fun x hx => h.pre x (by omega), fun x hx q => ?_, h.tgt, ?_⟩
    ·by_cases e : x = i
     ·subst e; rw [← h.pre x (by omega)]; exact q
     ·exact h.sub x (by omega) q
    ·rw [oth2_step _ _ _ (by rw [h.len]; exact hil), h.cnt, if_neg (by rw [h.pre i (by omega)]; exact hc)]; omega
   ·intro h; have hs := h.cnt; rw [oth2_step _ _ _ (by rw [h.len]; exact hil), if_neg (fun a => hc ⟨h.sub i (Nat.le_refl _) a.1, a.2⟩)] at hs; refine ⟨h.len, fun x hx => ?_, fun x hx => h.sub x (by omega), h.tgt, by omega⟩
    by_cases e : x = i
    ·subst e
     by_cases q : x = t
     ·subst q; rw [h.tgt, hl]
     ·have h1 : ¬ l.getD x false = true := fun a => hc ⟨a, q⟩; have h2 : ¬ c.getD x false = true := fun a => h1 (h.sub x (Nat.le_refl _) a); rw [Bool.eq_false_iff.2 h2, Bool.eq_false_iff.2 h1]
    ·exact h.pre x (by omega)
theorem mem_chsF {t : Nat} : ∀ (j i : Nat) (l c : List Bool), t < l.length → l.getD t false = true → (c ∈ chs t j i l ↔ ChF t j i l c)
 | 0, i, l, c, ht, hl => by rw [chs, List.mem_singleton]; exact mem_only ht hl
 | j + 1, i, l, c, ht, hl => by
  rw [chs]
  by_cases hi : i ≤ l.length
  ·exact mem_chsGo (fun i l c ht hl => mem_chsF j i l c ht hl) (l.length - i) i l c ht hl (by omega)
  ·rw [show l.length - i = 0 by omega]
   constructor
   ·intro h; simp [chsGo] at h
   ·intro h; have := h.cnt; rw [oth2_end _ _ _ (by rw [h.len]; omega)] at this
    omega
structure Ch (t j : Nat) (l c : List Bool) : Prop where
 sub : Sub c l
 tgt : c.getD t false = true
 cnt : shel c = j + 1
theorem mem_chs {t j : Nat} {l c : List Bool} (ht : t < l.length) (hl : l.getD t false = true) : c ∈ chs t j 0 l ↔ Ch t j l c := by
 rw [mem_chsF j 0 l c ht hl]
 constructor
 ·intro h; refine ⟨⟨h.len, fun x => h.sub x (by omega)⟩, h.tgt, ?_⟩; have h1 := h.cnt
  unfold oth2 at h1
  rw [List.drop_zero] at h1; have := shel_set_false c t h.tgt
  omega
 ·intro h; refine ⟨h.sub.len, fun x hx => by omega, fun x _ => h.sub.le x, h.tgt, ?_⟩; have := shel_set_false c t h.tgt; have := h.cnt
  unfold oth2
  rw [List.drop_zero]
  omega
theorem getB_lt {l : List Bool} {x : Nat} (h : l.getD x false = true) : x < l.length := by
 rcases Nat.lt_or_ge x l.length with q | q
 ·exact q
 ·rw [getB_out q] at h; cases h
theorem shel_sub : ∀ {c l : List Bool}, c.length = l.length → (∀ x, c.getD x false = true → l.getD x false = true) → shel c ≤ shel l
 | [], [], _, _ => Nat.le_refl _
 | [], b :: l, h, _ => by simp at h
 | a :: c, [], h, _ => by simp at h
 | a :: c, b :: l, h, k => by
  have h1 := shel_sub (c := c) (l := l) (by simpa using h) (fun x hx => by simpa using k (x + 1) (by simpa using hx)); have h2 := k 0; rw [shel_cons, shel_cons]
  cases a <;> cases b <;> simp at h2 ⊢ <;> omega
theorem Sub.shel {c l : List Bool} (h : Sub c l) : shel c ≤ shel l := shel_sub h.len h.le
theorem sub_more : ∀ {c l : List Bool}, c.length = l.length → (∀ x, c.getD x false = true → l.getD x false = true) → shel c < shel l → ∃ x, l.getD x false = true ∧ c.getD x false = false
 | [], [], _, _, q => by simp at q
 | [], b :: l, h, _, _ => by simp at h
 | a :: c, [], h, _, _ => by simp at h
 | a :: c, b :: l, h, k, q => by
  by_cases e : b = true ∧ a = false
  ·exact ⟨0, by simp [e.1], by simp [e.2]⟩
  ·have h2 := k 0; rw [shel_cons, shel_cons] at q; obtain ⟨x, h3, h4⟩ := sub_more (c := c) (l := l) (by simpa using h) (fun x hx => by simpa using k (x + 1) (by simpa using hx)) (by cases a <;> cases b <;> simp at h2 e q ⊢ <;> omega); exact ⟨x + 1, by simpa using h3, by simpa using h4⟩
theorem sub_grow (l : List Bool) (m : Nat) (hm : m ≤ shel l) : ∀ (d : Nat) (c : List Bool), Sub c l → shel c + d = m → ∃ c', Sub c c' ∧ Sub c' l ∧ shel c' = m
 | 0, c, h, e => ⟨c, Sub.refl _, h, by omega⟩
 | d + 1, c, h, e => by
  obtain ⟨x, h1, h2⟩ := sub_more h.len h.le (by omega); have hx := getB_lt h1
  have hxc : x < c.length := by rw [h.len]; exact hx
  have e' : ∀ y, (c.set x true).getD y false = if y = x then true else c.getD y false := fun y => getB_set _ _ _ _ hxc
  obtain ⟨c', q1, q2, q3⟩ := sub_grow l m hm d (c.set x true) ⟨by simpa using h.len, fun y hy => by
   rw [e'] at hy
   split at hy
   ·rename_i e2; rw [e2]; exact h1
   ·exact h.le y hy⟩ (by rw [shel_set_true c x hxc h2]; omega)
  exact ⟨c', Sub.trans ⟨by simp, fun y hy => by rw [e']; split; rfl; exact hy⟩ q1, q2, q3⟩
theorem Ch.more {t j m : Nat} {l c : List Bool} (h : Ch t j l c) (hm : m + 1 ≤ shel l) (hj : j ≤ m) : ∃ c', Sub c c' ∧ Ch t m l c' := by
 obtain ⟨c', h1, h2, h3⟩ := sub_grow l (m + 1) hm (m - j) c h.sub (by have := h.cnt; omega); exact ⟨c', h1, h2, h1.le t h.tgt, h3⟩
end Go.Proofs.Ytogmjilaiopjmaa.P
end
section
namespace Go.Proofs.Ytogmjilaiopjmaa.P
open Go.RowKit Go.Proofs.YtogmjilaiopjmaaW.PrintWords Go.Proofs.YtogmjilaiopjmaaW.PrintLast Go.Proofs.YtogmjilaiopjmaaW.PrintMore
abbrev intz (q : List Nat) : List Int := q.map fun x : Nat => (x : Int)
def initP2 (n k : Nat) (goal : Int) : Nat → St
 | 0 => (List.replicate (cntN n k) (-1), [])
 | i + 1 =>
  let st := initP2 n k goal i
  if (unrT n k i : Int) = goal then (st.1.set i 0, st.2 ++ [i]) else st
theorem initP2_len (n k : Nat) (goal : Int) : ∀ i, (initP2 n k goal i).1.length = cntN n k ∧ (initP2 n k goal i).2.length ≤ i
 | 0 => by simp [initP2]
 | i + 1 => by
  have := initP2_len n k goal i; simp only [initP2]
  split
  ·simp; omega
  ·exact ⟨this.1, by omega⟩
structure T2 (w0 : World) (gA n : Nat) (w : World) (qv : Value) (out q : List Int) : Prop where
 below : Below w0.heap.size w0 w
 bA : IntBlk w gA out
 ln : out.length = n
 ge : w0.heap.size ≤ gA
 hq : Kd.Q (Kd.int .i64) 3 w w0.heap.size (fun k => k ≠ gA) qv q
section
variable {w0 w w1 : World} {gA n : Nat} {qv : Value} {out q : List Int}
theorem T2.le (h : T2 w0 gA n w qv out q) : w0.heap.size ≤ w.heap.size := h.below.size
theorem T2.step (h : T2 w0 gA n w qv out q) (hb : Below w.heap.size w w1) : T2 w0 gA n w1 qv out q :=
 ⟨below_step h.below hb, RowBlk.below h.bA hb, h.ln, h.ge, Kd.Q_below h.hq hb⟩
theorem T2.put (h : T2 w0 gA n w qv out q) (i : Nat) (v : Int) : T2 w0 gA n (w.setCell ⟨gA, i, none⟩ (.int .i64 v)) qv (out.set i v) q :=
 ⟨below_set h.below h.ge, RowBlk.set h.bA i v, by rw [List.length_set]; exact h.ln, h.ge, Kd.Q_far h.hq (fun k hk => hk) _⟩
theorem T2.app {x : Int} {v1 : Value} (h : T2 w0 gA n w qv out q) (hQ : Kd.Q (Kd.int .i64) 3 w1 w0.heap.size (fun k => k ≠ gA) v1 (q ++ [x])) (hg : w.grownBy w1 qv.ownBlock) : T2 w0 gA n w1 v1 out (q ++ [x]) ∧ ∀ (k : Nat) (cs : Array Value) (t : Nat), w.heap[k]? = some (Obj.cells cs t (0, 0)) → t ≠ 3 → w1.heap[k]? = some (Obj.cells cs t (0, 0)) :=
 ⟨⟨h.below.grown hg h.le (Kd.Q_base h.hq), blk_grown h.bA hg (Kd.Q_away h.hq (fun k hk => hk)), h.ln, h.ge, hQ⟩, fun k cs t hk ht => blk_grown hk hg (Kd.Q_ne h.hq hk (Ne.symm ht))⟩
theorem T2.box {g t : Nat} {cs : Array Value} (h : T2 w0 gA n w qv out q) (hb : w.heap[g]? = some (.cells cs t (0, 0))) (h3 : t ≠ 3) (hge : w0.heap.size ≤ g) (j : Nat) (u : Value) : T2 w0 gA n (w.setCell ⟨g, j, none⟩ u) qv out q :=
 ⟨below_set h.below hge, RowBlk.far h.bA (p := ⟨g, j, none⟩) (blk_ne h.bA hb (Ne.symm h3)) u, h.ln, h.ge, Kd.Q_set h.hq hb (by intro r hr; simp [Kd.int, Kd.scalar] at hr; subst hr; exact Ne.symm h3) j u⟩
theorem T2.setq {v1 : Value} {q1 : List Int} (h : T2 w0 gA n w qv out q) (hQ : Kd.Q (Kd.int .i64) 3 w w0.heap.size (fun k => k ≠ gA) v1 q1) : T2 w0 gA n w v1 out q1 := ⟨h.below, h.bA, h.ln, h.ge, hQ⟩
end
theorem R_grown_q {α : Type} {d : Kd α} {e : Nat} {w w1 : World} {base : Nat} {ok : Nat → Prop} {v qv : Value} {xs : List α} {b0 : Nat} {ok0 : Nat → Prop} {q : List Int} (h : d.R e w base ok v xs) (ht : ∀ r, r ∈ e :: d.E → r ≠ 3) (hq : Kd.Q (Kd.int .i64) 3 w b0 ok0 qv q) (hg : w.grownBy w1 qv.ownBlock) : d.R e w1 base ok v xs := by
 refine Kd.R_mono (Kd.R_step (Kd.R_bound h) (fun k hk' hlt => ?_)) (fun _ hk' => hk'.1); obtain ⟨_, _, _, r, hr, cells, hc⟩ := hk'; rw [hc]; exact blk_grown hc hg (Kd.Q_ne hq hc (Ne.symm (ht r hr)))
theorem add_zero_at2 (a : Addr) : a.add 0 = a := by
 obtain ⟨b, o, p⟩ := a
 cases p <;> simp [Addr.add]
set_option maxHeartbeats 8000000 in
set_option maxRecDepth 100000 in
theorem ptable_ok (a0_0 : Int) (a0_1 : Int) (a0_2 : Int) (A0_3 : Option Addr) (c0_3 : Nat) (l0_3 : List Int) (A0_4 : Option Addr) (c0_4 : Nat) (l0_4 : List Int) (A1 : Option Addr) (c1 : Nat) (l1 : List Int) (k g : Nat) (out : List Int) (w : World) (hr0_3 : Kd.C (Kd.int .i64) w A0_3 l0_3.length l0_3) (hc0_3 : l0_3.length ≤ c0_3) (hr0_4 : Kd.C (Kd.int .i64) w A0_4 l0_4.length l0_4) (hc0_4 : l0_4.length ≤ c0_4) (hr1 : Kd.C (Kd.int .i64) w A1 l1.length l1) (hc1 : l1.length ≤ c1) (hn : l1.length ≤ 24) (hcm : cntN l1.length k ≤ 24576) (hk1 : 1 ≤ k) (hk2 : k ≤ l1.length) (hg : g < l1.length) (h : bfsP a0_0 a0_1 a0_2 l0_3 l0_4 l1 l1.length k (cntN l1.length k + 1) (initP2 l1.length k (g : Int) (cntN l1.length k)).1 (initP2 l1.length k (g : Int) (cntN l1.length k)).2 = some out) :
  Calls Try.prog 71 #[.agg #[.int .i64 a0_0, .int .i64 a0_1, .int .i64 a0_2, .slice A0_3 l0_3.length c0_3, .slice A0_4 l0_4.length c0_4], .slice A1 l1.length c1, .int .i64 (k : Int), .int .i64 (g : Int)] w fun e w' => ∃ v0_ : Value, e = .returned v0_ ∧ Kd.R (Kd.int .i64) 3 w' w.heap.size (fun _ => True) v0_ out ∧ Below w.heap.size w w' := by
 have hu22 := Try.underlying22; have hu24 := Try.underlying24; have hu27 := Try.underlying27; have hu51 := Try.underlying51; have HB := ak (Below.refl w.heap.size w); have HR3 := ak hr0_3; have HC3 := ak hc0_3; have HR4 := ak hr0_4; have HC4 := ak hc0_4; have HR1 := ak hr1; have HC1 := ak hc1; have HBF := ak h; have HN := ak hn; have HCN := ak hcm; have HM1 := ak (show 1 ≤ cntN l1.length k from Nat.mul_pos (by omega) (bin_pos _ _ (by omega)))
 have HCC := ak (show cnt (l1.length : Int) (k : Int) = (cntN l1.length k : Int) by
  unfold cnt cntN
  rw [if_neg (by omega), if_neg (by omega), if_neg (by omega), if_neg (by omega), show ((l1.length : Int) - 1).toNat = l1.length - 1 by omega, show ((k : Int) - 1).toNat = k - 1 by omega]
  simp)
 have HK1 := ak hk1; have HK2 := ak hk2; have HG := ak hg; clear hr0_3 hc0_3 hr0_4 hc0_4 hr1 hc1 h hk1 hk2 hg hn hcm; obtain ⟨m, hm⟩ : ∃ m, m = cntN l1.length k := ⟨_, rfl⟩; rw [← hm] at HBF HCN HCC HM1
 have m1 : (m : Int) ≤ 24576 := by have := HCN.1; omega
 have HM := ak hm; clear hm
 go_enter Try.func71, Try.ntmps71
 go_upto_region 2 with ((with_reducible refine gate_dst (N := 4) rfl ?_); refine box_event ?hg (N := 4) ?hd (cs := #[.int .i64 a0_0, .int .i64 a0_1, .int .i64 a0_2, .slice A0_3 l0_3.length c0_3, .slice A0_4 l0_4.length c0_4]) (t := 24) ?hr ?_; (case hd => rfl); (case hg => rfl); (case hr => first | (go_simp; done) | (go_simp; rfl)); intro g4 hg w4 hbox hb; have GE4 := ak (show w.heap.size ≤ g4 by have := HB.1.size; omega); have n_HB := ak (below_step HB.1 hb); clear HB; have HB := n_HB; clear n_HB; have BK4 := ak hbox; clear hbox hb hg)
 have hbs := blk_new w4 (.cells #[.int .i64 (-1)] 3)
 go_upto_region 3 with (first | (go_at_call 27; refine (layout_Count.calls _ _ _ _ rfl).mono ?_; rintro e w27 ⟨rfl, hb⟩; rw [HCC.1]; have BK27 := ak (blk_below (blk_alloc BK4.1 (.cells #[.int .i64 (-1)] 3)) hb); have HX27 := ak (blk_below hbs hb); have HB27 := ak (below_step (below_alloc HB.1 (.cells #[.int .i64 (-1)] 3)) hb); clear hb) | (go_at_call 89; refine (repeat_walk ⟨w4.heap.size, 0, none⟩ 1 m _ ((blk_cell HX27.1 0).trans rfl) HM1.1 (by have := HCN.1; omega)).mono ?_; rintro e w89 ⟨gA, rfl, hgA, hbA, hb⟩; have HA := ak hbA; have HGA := ak hgA; have BK89 := ak (blk_below BK27.1 hb); have HB89 := ak (below_step HB27.1 hb); clear hb hbA hgA))
 have HT := ak (show T2 w gA m w89 (.slice none 0 0) (initP2 l1.length k (g : Int) 0).1 (intz (initP2 l1.length k (g : Int) 0).2) from ⟨HB89.1, by have h := HA.1; rw [HM.1] at h; exact h, by rw [(initP2_len _ _ _ 0).1]; exact HM.1.symm, Nat.le_trans HB27.1.size HGA.1, Kd.Q_nil _ _ _ _ _⟩); clear HA BK27 HX27 HB27 HGA hbs BK4 HB HB89; have BK4 := BK89; clear BK89
 go_wp2_with (fail)
 go_loopg [11, 31] m (fun kq v11 v31 w' => ∃ (i : Nat), v31 = .int .i64 (i : Int) ∧ Aside0 (kq + i = m) ∧ Aside0 (T2 w gA m w' v11 (initP2 l1.length k (g : Int) i).1 (intz (initP2 l1.length k (g : Int) i).2)) ∧ Aside0 (w'.heap[g4]? = some (.cells #[.int .i64 a0_0, .int .i64 a0_1, .int .i64 a0_2, .slice A0_3 l0_3.length c0_3, .slice A0_4 l0_4.length c0_4] 24 (0, 0))))
 case atStart => exact ⟨0, rfl, ⟨by omega⟩, HT, BK4⟩
 case round =>
  clear BK4 HT; obtain ⟨i, rfl, HI, HT, BK4⟩ := hrel; have HB := ak HT.1.below
  by_cases hi : i < m
  ·have y1 : decide ((i : Int) < (m : Int)) = true := decide_eq_true (by omega)
   have y2 : (i : Int) < (m : Int) := by omega
   have y2' : i < m := hi; have HQL := ak (show (initP2 l1.length k (g : Int) i).2.length ≤ 24576 by have := (initP2_len l1.length k (g : Int) i).2; have := HCN.1; omega)
   have HUN := ak (show layout_Unrank.f (l1.length : Int) (k : Int) (i : Int) = some (unrL l1.length k i, (unrT l1.length k i : Int), true) by
    unfold layout_Unrank.f
    rw [if_pos ⟨by omega, by rw [HCC.1]; exact y2⟩]
    simp)
   clear hi
   go_upto_region 8 with (first | (go_at_call 28; refine (layout_Unrank.calls _ _ _ _ _ _ _ HUN.1).mono ?_; rintro e w28 ⟨v28, rfl, hR, hb⟩; obtain ⟨Al, cl, hv⟩ := Kd.R_slice hR; subst hv; have HL := ak (Kd.R_lower hR HT.1.le); have n_BK4 := ak (blk_below BK4.1 hb); have n_HT := ak (HT.1.step hb); have n_HB := ak (below_step HB.1 hb); clear BK4; clear HT; clear HB; have BK4 := n_BK4; have HT := n_HT; have HB := n_HB; clear n_BK4 n_HT n_HB; clear hR hb) | ((with_reducible refine gate_dst (N := 13) rfl ?_); refine box_event ?hg (N := 13) ?hd (cs := #[.slice none 0 0, .int .i64 0]) (t := 27) ?hr ?_; (case hd => rfl); (case hg => rfl); (case hr => first | (go_simp; done) | (go_simp; rfl)); intro g13 hg w13 hbox hb; have GE13 := ak (show w.heap.size ≤ g13 by have := HB.1.size; omega); have NE13_4 := ak (show g13 ≠ g4 by have := blk_lt BK4.1; omega); have n_BK4 := ak (blk_below BK4.1 hb); have n_HT := ak (HT.1.step hb); have n_HL := ak (Kd.R_below HL.1 hb); have n_HB := ak (below_step HB.1 hb); clear BK4; clear HT; clear HL; clear HB; have BK4 := n_BK4; have HT := n_HT; have HL := n_HL; have HB := n_HB; clear n_BK4 n_HT n_HL n_HB; have BK13 := ak hbox; clear hbox hb hg; have b0 := blk_cell BK13.1 0; have b1 := blk_cell BK13.1 1; have f0 := blk_frozen BK13.1 0; have f1 := blk_frozen BK13.1 1; (try simp at b0 b1)))
   have n_BK := ak (blk_put (blk_put (BK13.1) 0 (.slice Al (unrL l1.length k i).length cl) rfl) 1 (.int .i64 (unrT l1.length k i : Int)) rfl); have n_HB := ak (below_set (below_set (HB.1) (g := g13) (j := 0) (v := .slice Al (unrL l1.length k i).length cl) GE13.1) (g := g13) (j := 1) (v := .int .i64 (unrT l1.length k i : Int)) GE13.1); have n_BK4 := ak (blk_far (blk_far (BK4.1) (p := ⟨g13, 0, none⟩) (blk_ne BK4.1 BK13.1 (by decide)) (.slice Al (unrL l1.length k i).length cl)) (p := ⟨g13, 1, none⟩) (blk_ne BK4.1 BK13.1 (by decide)) (.int .i64 (unrT l1.length k i : Int))); have n_HL := ak (Kd.R_mono (Kd.R_far (Kd.R_far (Kd.R_types HL.1 BK13.1 (by decide)) (p := ⟨g13, 0, none⟩) (fun k hk => hk.2) (.slice Al (unrL l1.length k i).length cl)) (p := ⟨g13, 1, none⟩) (fun k hk => hk.2) (.int .i64 (unrT l1.length k i : Int))) (fun _ _ => trivial) (ok' := fun _ => True)); have n_HT := ak (T2.box (T2.box (HT.1) (BK13.1) (by decide) GE13.1 0 (.slice Al (unrL l1.length k i).length cl)) (blk_put (BK13.1) 0 (.slice Al (unrL l1.length k i).length cl) rfl) (by decide) GE13.1 1 (.int .i64 (unrT l1.length k i : Int))); generalize ((w13.setCell ⟨g13, 0, none⟩ (.slice Al (unrL l1.length k i).length cl)).setCell ⟨g13, 1, none⟩ (.int .i64 (unrT l1.length k i : Int))) = w13b at n_HT n_BK n_HB n_BK4 n_HL ⊢; clear HT; have HT := n_HT; clear n_HT; clear HB BK13 BK4 HL b0 b1 f0 f1; have BK13 := n_BK; have HB := n_HB; have BK4 := n_BK4; have HL := n_HL; clear n_BK n_HB n_BK4 n_HL

   have b1 := blk_cell BK13.1 1
   try simp at b1
   obtain ⟨tt, htt⟩ : ∃ x, x = unrT l1.length k i := ⟨_, rfl⟩; rw [← htt] at b1; have HTT := ak htt; clear htt; obtain ⟨qv, hqv⟩ : ∃ q, q = u11 := ⟨_, rfl⟩; subst hqv
   by_cases hx : (tt : Int) = (g : Int)
   ·have z7 : ((tt : Int) == (g : Int)) = true := beq_iff_eq.2 hx
    have z8 : tt = g := by omega
    have HX := ak hx; have cA := RowBlk.cell HT.1.bA 0 i (by rw [HT.1.ln]; exact y2'); have fA := RowBlk.free HT.1.bA i; obtain ⟨d, hd⟩ : ∃ d, d = (initP2 l1.length k (g : Int) i).1.getD i 0 := ⟨_, rfl⟩; rw [← hd] at cA; clear hd hx; have HT2 := ak (HT.1.put i 0); have BK2 := ak (blk_far (p := ⟨gA, i, none⟩) BK4.1 (blk_ne BK4.1 HT.1.bA (by decide)) (.int .i64 0))
    go_wp2_with (at_builtin; go_loud (refine Kd.Q_append (Kd.int .i64) (w0 := w) w.heap.size rfl (.tmp 48) (.tmp 50) 22 3 (.int .i64 0) 8 rfl Try.underlying22 info3 rfl (by decide) (by omega) qv _ (i : Int) [.int .i64 (i : Int)] (fun k => k ≠ gA) (fun _ => False) rfl (by simp only [World.size_setCell]; rfl) rfl (fun _ hk => hk.elim) (fun k hk => by have := blk_lt HT2.1.bA; omega) HT2.1.hq HT2.1.below HT2.1.le (by rw [List.length_map]; have := HQL.1; omega) ?_); intro v1 wa ho hb hg hat; have HA := ak (HT2.1.app ho hg); have BK3 := ak (HA.1.2 _ _ _ BK2.1 (by decide)); clear ho hb hg hat)
    go_roundg (gk - 1)
    case measure => have := HI.1; omega
    case rel => exact ⟨i + 1, by first | rfl | simp, ⟨by have := HI.1; omega⟩, ⟨by simp only [initP2]; rw [if_pos (by rw [← HTT.1]; exact HX.1)]; unfold intz; rw [List.map_append]; exact HA.1.1⟩, BK3⟩
   ·have z7 : ((tt : Int) == (g : Int)) = false := beq_eq_false_iff_ne.2 hx
    have z8 : ¬ tt = g := by omega
    have HX := ak hx; clear hx
    go_wp2_with fail
    go_roundg (gk - 1)
    case measure => have := HI.1; omega
    case rel => exact ⟨i + 1, by first | rfl | simp, ⟨by have := HI.1; omega⟩, ⟨by simp only [initP2]; rw [if_neg (by rw [← HTT.1]; exact HX.1)]; exact HT.1⟩, BK4⟩
  ·have hie : i = m := by have := HI.1; omega
   have y1 : decide ((i : Int) < (m : Int)) = false := decide_eq_false (by omega); have y3 : decide (i < m) = false := decide_eq_false (by omega)
   have y2 : (m : Int) ≤ (i : Int) := by omega
   rw [hie] at HT; clear hie hi; obtain ⟨st, hst⟩ : ∃ st, st = initP2 l1.length k (g : Int) m := ⟨_, rfl⟩; rw [← hst] at HT; have HBG := ak (show bfsP a0_0 a0_1 a0_2 l0_3 l0_4 l1 l1.length k (m + 1) st.1 st.2 = some out by rw [hst]; exact HBF.1); clear hst HBF HB
   go_wp2_with fail
   go_loopg [11] (m + 1) (fun kq v11 w' => ∃ (st : St), Aside0 (bfsP a0_0 a0_1 a0_2 l0_3 l0_4 l1 l1.length k kq st.1 st.2 = some out) ∧ Aside0 (T2 w gA m w' v11 st.1 (intz st.2)) ∧ Aside0 (w'.heap[g4]? = some (.cells #[.int .i64 a0_0, .int .i64 a0_1, .int .i64 a0_2, .slice A0_3 l0_3.length c0_3, .slice A0_4 l0_4.length c0_4] 24 (0, 0))))
   case atStart => exact ⟨st, HBG, HT, BK4⟩
   case round =>
    clear BK4 HT HBG; obtain ⟨⟨o, q⟩, HBG, HT, BK4⟩ := hrel; have HB := ak HT.1.below; obtain ⟨Aq, cq, hqv, hqc⟩ := Kd.Q_slice HT.1.hq; rw [List.length_map] at hqv; subst hqv
    obtain ⟨f, rfl⟩ : ∃ f, gk = f + 1 := by
     cases gk with
     | zero => have := HBG.1; simp [bfsP] at this
     | succ f => exact ⟨f, rfl⟩
    cases q with
    | nil =>
     have HO := ak (show o = out by have := HBG.1; simp only [bfsP] at this; injection this)
     go_wp2_with fail
     go_ret
     exact ⟨_, rfl, by
      have h := RowBlk.ofR (h1 := fun _ => rfl) HT.1.bA HT.1.ge (ok := fun _ => True) trivial (by rw [HT.1.ln]; omega); rw [HT.1.ln] at h; rw [← HO.1]
      exact h, HB.1⟩
    | cons rank q =>
     rw [List.length_cons] at *; have hC := (Kd.Q_reads' HT.1.hq).2.2; obtain ⟨ad, hAq, hcq⟩ := int_cells hC (by simp); subst hAq; have cq0 := hcq 0 (by simp); rw [add_zero_at2] at cq0
     simp at cq0
     clear hC hcq; have hbf := HBG.1; simp only [bfsP] at hbf
     split at hbf
     case isFalse => cases hbf
     rename_i hcond
     obtain ⟨ss, hss, hbf⟩ := Option.bind_eq_some_iff.1 hbf; obtain ⟨st2, hst2, hbf⟩ := Option.bind_eq_some_iff.1 hbf; have HBF := ak hbf; have HST := ak hst2; have HSS := ak (show layout_Backs.f a0_0 a0_1 a0_2 l0_3 l0_4 l1 (unrL l1.length k rank) (unrT l1.length k rank : Int) = some ss by unfold layout_Backs.f; rw [hss]; rfl); rw [← HM.1] at hcond; have HRK := ak hcond.1
     have y4 : (rank : Int) < (m : Int) := by have := hcond.1; omega
     have y5 : rank < m := hcond.1
     have HUN := ak (show layout_Unrank.f (l1.length : Int) (k : Int) (rank : Int) = some (unrL l1.length k rank, (unrT l1.length k rank : Int), true) by
      unfold layout_Unrank.f
      rw [if_pos ⟨by omega, by rw [HCC.1]; exact y4⟩]
      simp)
     have hqp : (0 : Int) < (q.length : Int) + 1 := by omega
     have hqp2 : decide (0 < q.length + 1) = true := decide_eq_true (by omega); clear hbf hst2 hss hcond HBG; generalize hul : unrL l1.length k rank = ul at HUN HSS HST; generalize hut : (unrT l1.length k rank : Int) = ut at HUN HSS HST; clear hul hut
     go_upto_region 15 with (first | (go_at_call 28; refine (layout_Unrank.calls _ _ _ _ _ _ _ HUN.1).mono ?_; rintro e w28 ⟨v28, rfl, hR, hb⟩; obtain ⟨Al, cl, hv⟩ := Kd.R_slice hR; subst hv; have HL := ak (Kd.R_lower hR HT.1.le); have n_BK4 := ak (blk_below BK4.1 hb); have n_HT := ak (HT.1.step hb); have n_HB := ak (below_step HB.1 hb); clear BK4; clear HT; clear HB; have BK4 := n_BK4; have HT := n_HT; have HB := n_HB; clear n_BK4 n_HT n_HB; clear hR hb) | ((with_reducible refine gate_dst (N := 15) rfl ?_); refine box_event ?hg (N := 15) ?hd (cs := #[.slice none 0 0, .int .i64 0]) (t := 27) ?hr ?_; (case hd => rfl); (case hg => rfl); (case hr => first | (go_simp; done) | (go_simp; rfl)); intro g15 hg w15 hbox hb; have GE15 := ak (show w.heap.size ≤ g15 by have := HB.1.size; omega); have NE15_4 := ak (show g15 ≠ g4 by have := blk_lt BK4.1; omega); have n_BK4 := ak (blk_below BK4.1 hb); have n_HT := ak (HT.1.step hb); have n_HL := ak (Kd.R_below HL.1 hb); have n_HB := ak (below_step HB.1 hb); clear BK4; clear HT; clear HL; clear HB; have BK4 := n_BK4; have HT := n_HT; have HL := n_HL; have HB := n_HB; clear n_BK4 n_HT n_HL n_HB; have BK15 := ak hbox; clear hbox hb hg; have b0 := blk_cell BK15.1 0; have b1 := blk_cell BK15.1 1; have f0 := blk_frozen BK15.1 0; have f1 := blk_frozen BK15.1 1; (try simp at b0 b1)))
     have n_BK := ak (blk_put (blk_put (BK15.1) 0 (.slice Al ul.length cl) rfl) 1 (.int .i64 ut) rfl); have n_HB := ak (below_set (below_set (HB.1) (g := g15) (j := 0) (v := .slice Al ul.length cl) GE15.1) (g := g15) (j := 1) (v := .int .i64 ut) GE15.1); have n_BK4 := ak (blk_far (blk_far (BK4.1) (p := ⟨g15, 0, none⟩) (blk_ne BK4.1 BK15.1 (by decide)) (.slice Al ul.length cl)) (p := ⟨g15, 1, none⟩) (blk_ne BK4.1 BK15.1 (by decide)) (.int .i64 ut)); have n_HL := ak (Kd.R_mono (Kd.R_far (Kd.R_far (Kd.R_types HL.1 BK15.1 (by decide)) (p := ⟨g15, 0, none⟩) (fun k hk => hk.2) (.slice Al ul.length cl)) (p := ⟨g15, 1, none⟩) (fun k hk => hk.2) (.int .i64 ut)) (fun _ _ => trivial) (ok' := fun _ => True)); have n_HT := ak (T2.box (T2.box (HT.1) (BK15.1) (by decide) GE15.1 0 (.slice Al ul.length cl)) (blk_put (BK15.1) 0 (.slice Al ul.length cl) rfl) (by decide) GE15.1 1 (.int .i64 ut)); generalize ((w15.setCell ⟨g15, 0, none⟩ (.slice Al ul.length cl)).setCell ⟨g15, 1, none⟩ (.int .i64 ut)) = w15b at n_HT n_BK n_HB n_BK4 n_HL ⊢; clear HT; have HT := n_HT; clear n_HT; clear HB BK15 BK4 HL b0 b1 f0 f1; have BK15 := n_BK; have HB := n_HB; have BK4 := n_BK4; have HL := n_HL; clear n_BK n_HB n_BK4 n_HL

     have e40 := blk_cell BK4.1 0; have e41 := blk_cell BK4.1 1; have e42 := blk_cell BK4.1 2; have e43 := blk_cell BK4.1 3; have e44 := blk_cell BK4.1 4; have e60 := blk_cell BK15.1 0; have e61 := blk_cell BK15.1 1
     try simp at e40 e41 e42 e43 e44 e60 e61
     clear cq0
     go_wp2_with (go_at_call 56; go_loud (refine (layout_Backs.calls a0_0 a0_1 a0_2 _ _ l0_3 _ _ l0_4 _ _ l1 _ _ ul ut ss _ (Kd.C_below HR3.1 HB.1) HC3.1 (Kd.C_below HR4.1 HB.1) HC4.1 (Kd.C_below HR1.1 HB.1) HC1.1 (Kd.R_reads' HL.1).2.2 (Kd.R_reads' HL.1).2.1 HSS.1).mono ?_); rintro e w56 ⟨v56, rfl, hR, hb⟩; obtain ⟨As, cs, hv⟩ := Kd.R_slice hR; subst hv; have HS := ak (Kd.R_lower hR HT.1.le); have n_BK4 := ak (blk_below BK4.1 hb); have n_BK15 := ak (blk_below BK15.1 hb); have n_HT := ak (HT.1.step hb); have n_HL := ak (Kd.R_below HL.1 hb); have n_HB := ak (below_step HB.1 hb); clear BK4; clear BK15; clear HT; clear HL; clear HB; have BK4 := n_BK4; have BK15 := n_BK15; have HT := n_HT; have HL := n_HL; have HB := n_HB; clear n_BK4 n_BK15 n_HT n_HL n_HB; clear hR hb)
     clear e40 e41 e42 e43 e44 e60 e61 HB
     go_loopg [11, 72] ss.length (fun kr v11 v72 w' => ∃ (j : Nat) (st1 : St), v72 = .int .i64 (j : Int) ∧ Aside0 (kr + j = ss.length) ∧ Aside0 (T2 w gA m w' v11 st1.1 (intz (rank :: st1.2))) ∧ Aside0 (backsP ul ut rank st1 (ss.drop j) = some st2) ∧ Aside0 (w'.heap[g4]? = some (.cells #[.int .i64 a0_0, .int .i64 a0_1, .int .i64 a0_2, .slice A0_3 l0_3.length c0_3, .slice A0_4 l0_4.length c0_4] 24 (0, 0))) ∧ Aside0 (w'.heap[g15]? = some (.cells #[.slice Al ul.length cl, .int .i64 ut] 27 (0, 0))) ∧ Aside0 (Kd.R Kd.bool 4 w' w.heap.size (fun _ => True) (.slice Al ul.length cl) ul) ∧ Aside0 (Kd.R k51 51 w' w.heap.size (fun _ => True) (.slice As ss.length cs) ss))
     case atStart => exact ⟨0, (o, q), rfl, ⟨by omega⟩, HT, ⟨by rw [List.drop_zero]; exact HST.1⟩, BK4, BK15, HL, HS⟩
     case round =>
      clear HT HST BK4 BK15 HL HS; obtain ⟨j, st1, rfl, HJ, HT, HST, BK4, BK15, HL, HS⟩ := hrel; have HB := ak HT.1.below; obtain ⟨Aq2, cq2, hqv, hqc2⟩ := Kd.Q_slice HT.1.hq; rw [List.length_map, List.length_cons] at hqv; rw [List.length_map, List.length_cons] at hqc2; subst hqv
      by_cases hj : j < ss.length
      ·have y6 : decide ((j : Int) < (ss.length : Int)) = true := decide_eq_true (by omega); have y7 : decide (j < ss.length) = true := decide_eq_true hj
       have y8 : (j : Int) < (ss.length : Int) := by omega
       obtain ⟨s, hs⟩ : ∃ s, s = ss[j] := ⟨_, rfl⟩; have hst := HST.1; rw [List.drop_eq_getElem_cons hj, ← hs] at hst; simp only [backsP] at hst; obtain ⟨st3, hst3, hst⟩ := Option.bind_eq_some_iff.1 hst; have HST2 := ak hst; clear hst HST
       unfold backP at hst3
       obtain ⟨⟨fb, tb, eb⟩, hdo, hst3⟩ := Option.bind_eq_some_iff.1 hst3; obtain ⟨mm, hmm, hst3⟩ := Option.bind_eq_some_iff.1 hst3; have HDO := ak hdo; have HMM := ak hmm
       split at hst3
       case isFalse => cases hst3
       rename_i hcond
       injection hst3 with hst3
       have HCO := ak hcond; have HS3 := ak hst3; clear hdo hmm hcond hst3; obtain ⟨ads, e, c0, c1⟩ := at_T51 (Kd.R_reads' HS.1).2.2 (j : Int) (by omega) (by omega); subst e; rw [Int.toNat_natCast] at c0 c1
       have hrd : rd_T51 ss (j : Int) = s := by
        unfold rd_T51
        rw [Int.toNat_natCast, List.getD_eq_getElem?_getD, List.getElem?_eq_getElem hj, hs]; rfl
       rw [hrd] at c0 c1; clear hrd hs
       go_upto_region 18 with ((with_reducible refine gate_dst (N := 18) rfl ?_); refine box_event ?hg (N := 18) ?hd (cs := #[.int .i64 0, .int .i64 0]) (t := 51) ?hr ?_; (case hd => rfl); (case hg => rfl); (case hr => first | (go_simp; done) | (go_simp; rfl)); intro g18 hg w18 hbox hb; have GE18 := ak (show w.heap.size ≤ g18 by have := HB.1.size; omega); have NE18_4 := ak (show g18 ≠ g4 by have := blk_lt BK4.1; omega); have NE18_15 := ak (show g18 ≠ g15 by have := blk_lt BK15.1; omega); have n_BK4 := ak (blk_below BK4.1 hb); have n_BK15 := ak (blk_below BK15.1 hb); have n_HT := ak (HT.1.step hb); have n_HL := ak (Kd.R_below HL.1 hb); have n_HS := ak (Kd.R_below (Kd.R_elderB HS.1 g18 (by omega)) hb); have n_HB := ak (below_step HB.1 hb); clear BK4; clear BK15; clear HT; clear HL; clear HS; clear HB; have BK4 := n_BK4; have BK15 := n_BK15; have HT := n_HT; have HL := n_HL; have HS := n_HS; have HB := n_HB; clear n_BK4 n_BK15 n_HT n_HL n_HS n_HB; have BK18 := ak hbox; clear hbox hb hg; have b0 := blk_cell BK18.1 0; have b1 := blk_cell BK18.1 1; have f0 := blk_frozen BK18.1 0; have f1 := blk_frozen BK18.1 1; (try simp at b0 b1))
       have n_BK := ak (blk_put (blk_put (BK18.1) 0 (.int .i64 s.f0) rfl) 1 (.int .i64 s.f1) rfl); have n_HB := ak (below_set (below_set (HB.1) (g := g18) (j := 0) (v := .int .i64 s.f0) GE18.1) (g := g18) (j := 1) (v := .int .i64 s.f1) GE18.1); have n_BK4 := ak (blk_far (blk_far (BK4.1) (p := ⟨g18, 0, none⟩) (blk_ne BK4.1 BK18.1 (by decide)) (.int .i64 s.f0)) (p := ⟨g18, 1, none⟩) (blk_ne BK4.1 BK18.1 (by decide)) (.int .i64 s.f1)); have n_BK15 := ak (blk_far (blk_far (BK15.1) (p := ⟨g18, 0, none⟩) (blk_ne BK15.1 BK18.1 (by decide)) (.int .i64 s.f0)) (p := ⟨g18, 1, none⟩) (blk_ne BK15.1 BK18.1 (by decide)) (.int .i64 s.f1)); have n_HL := ak (Kd.R_mono (Kd.R_far (Kd.R_far (Kd.R_types HL.1 BK18.1 (by decide)) (p := ⟨g18, 0, none⟩) (fun k hk => hk.2) (.int .i64 s.f0)) (p := ⟨g18, 1, none⟩) (fun k hk => hk.2) (.int .i64 s.f1)) (fun _ _ => trivial) (ok' := fun _ => True)); have n_HS := ak (Kd.R_mono (Kd.R_far (Kd.R_far (HS.1) (p := ⟨g18, 0, none⟩) (fun k hk => hk.2) (.int .i64 s.f0)) (p := ⟨g18, 1, none⟩) (fun k hk => hk.2) (.int .i64 s.f1)) (fun _ _ => trivial) (ok' := fun _ => True)); have n_HT := ak (T2.box (T2.box (HT.1) (BK18.1) (by decide) GE18.1 0 (.int .i64 s.f0)) (blk_put (BK18.1) 0 (.int .i64 s.f0) rfl) (by decide) GE18.1 1 (.int .i64 s.f1)); generalize ((w18.setCell ⟨g18, 0, none⟩ (.int .i64 s.f0)).setCell ⟨g18, 1, none⟩ (.int .i64 s.f1)) = w18b at n_HT n_BK n_HB n_BK4 n_BK15 n_HL n_HS ⊢; clear HT; have HT := n_HT; clear n_HT; clear HB BK18 BK4 BK15 HL HS b0 b1 f0 f1; have BK18 := n_BK; have HB := n_HB; have BK4 := n_BK4; have BK15 := n_BK15; have HL := n_HL; have HS := n_HS; clear n_BK n_HB n_BK4 n_BK15 n_HL n_HS

       have d0 := blk_cell BK18.1 0; have d1 := blk_cell BK18.1 1; have e60 := blk_cell BK15.1 0; have e61 := blk_cell BK15.1 1
       try simp at d0 d1 e60 e61
       clear c0 c1
       go_upto_region 19 with (first | (go_at_call 30; go_loud (refine (layout_Do.calls _ _ ul ut s.f1 s.f0 fb tb eb _ (Kd.R_reads' HL.1).2.2 (Kd.R_reads' HL.1).2.1 HDO.1).mono ?_); rintro e w30 ⟨v30, rfl, hR, hb⟩; obtain ⟨Ab, cb, hv⟩ := Kd.R_slice hR; subst hv; have HD := ak (Kd.R_lower hR HT.1.le); have n_BK4 := ak (blk_below BK4.1 hb); have n_BK15 := ak (blk_below BK15.1 hb); have n_BK18 := ak (blk_below BK18.1 hb); have n_HT := ak (HT.1.step hb); have n_HL := ak (Kd.R_below HL.1 hb); have n_HS := ak (Kd.R_below HS.1 hb); have n_HB := ak (below_step HB.1 hb); clear BK4; clear BK15; clear BK18; clear HT; clear HL; clear HS; clear HB; have BK4 := n_BK4; have BK15 := n_BK15; have BK18 := n_BK18; have HT := n_HT; have HL := n_HL; have HS := n_HS; have HB := n_HB; clear n_BK4 n_BK15 n_BK18 n_HT n_HL n_HS n_HB; clear hR hb) | ((with_reducible refine gate_dst (N := 19) rfl ?_); refine box_event ?hg (N := 19) ?hd (cs := #[.slice none 0 0, .int .i64 0]) (t := 27) ?hr ?_; (case hd => rfl); (case hg => rfl); (case hr => first | (go_simp; done) | (go_simp; rfl)); intro g19 hg w19 hbox hb; have GE19 := ak (show w.heap.size ≤ g19 by have := HB.1.size; omega); have NE19_4 := ak (show g19 ≠ g4 by have := blk_lt BK4.1; omega); have NE19_15 := ak (show g19 ≠ g15 by have := blk_lt BK15.1; omega); have NE19_18 := ak (show g19 ≠ g18 by have := blk_lt BK18.1; omega); have n_BK4 := ak (blk_below BK4.1 hb); have n_BK15 := ak (blk_below BK15.1 hb); have n_BK18 := ak (blk_below BK18.1 hb); have n_HT := ak (HT.1.step hb); have n_HL := ak (Kd.R_below HL.1 hb); have n_HS := ak (Kd.R_below HS.1 hb); have n_HD := ak (Kd.R_below HD.1 hb); have n_HB := ak (below_step HB.1 hb); clear BK4; clear BK15; clear BK18; clear HT; clear HL; clear HS; clear HD; clear HB; have BK4 := n_BK4; have BK15 := n_BK15; have BK18 := n_BK18; have HT := n_HT; have HL := n_HL; have HS := n_HS; have HD := n_HD; have HB := n_HB; clear n_BK4 n_BK15 n_BK18 n_HT n_HL n_HS n_HD n_HB; have BK19 := ak hbox; clear hbox hb hg; have b0 := blk_cell BK19.1 0; have b1 := blk_cell BK19.1 1; have f0 := blk_frozen BK19.1 0; have f1 := blk_frozen BK19.1 1; (try simp at b0 b1)))
       have n_BK := ak (blk_put (blk_put (BK19.1) 0 (.slice Ab fb.length cb) rfl) 1 (.int .i64 tb) rfl); have n_HB := ak (below_set (below_set (HB.1) (g := g19) (j := 0) (v := .slice Ab fb.length cb) GE19.1) (g := g19) (j := 1) (v := .int .i64 tb) GE19.1); have n_BK4 := ak (blk_far (blk_far (BK4.1) (p := ⟨g19, 0, none⟩) (blk_ne BK4.1 BK19.1 (by decide)) (.slice Ab fb.length cb)) (p := ⟨g19, 1, none⟩) (blk_ne BK4.1 BK19.1 (by decide)) (.int .i64 tb)); have n_BK15 := ak (blk_far (blk_far (BK15.1) (p := ⟨g19, 0, none⟩) (Ne.symm NE19_15.1) (.slice Ab fb.length cb)) (p := ⟨g19, 1, none⟩) (Ne.symm NE19_15.1) (.int .i64 tb)); have n_BK18 := ak (blk_far (blk_far (BK18.1) (p := ⟨g19, 0, none⟩) (blk_ne BK18.1 BK19.1 (by decide)) (.slice Ab fb.length cb)) (p := ⟨g19, 1, none⟩) (blk_ne BK18.1 BK19.1 (by decide)) (.int .i64 tb)); have n_HL := ak (Kd.R_mono (Kd.R_far (Kd.R_far (Kd.R_types HL.1 BK19.1 (by decide)) (p := ⟨g19, 0, none⟩) (fun k hk => hk.2) (.slice Ab fb.length cb)) (p := ⟨g19, 1, none⟩) (fun k hk => hk.2) (.int .i64 tb)) (fun _ _ => trivial) (ok' := fun _ => True)); have n_HS := ak (Kd.R_mono (Kd.R_far (Kd.R_far (Kd.R_types HS.1 BK19.1 (by decide)) (p := ⟨g19, 0, none⟩) (fun k hk => hk.2) (.slice Ab fb.length cb)) (p := ⟨g19, 1, none⟩) (fun k hk => hk.2) (.int .i64 tb)) (fun _ _ => trivial) (ok' := fun _ => True)); have n_HD := ak (Kd.R_mono (Kd.R_far (Kd.R_far (Kd.R_types HD.1 BK19.1 (by decide)) (p := ⟨g19, 0, none⟩) (fun k hk => hk.2) (.slice Ab fb.length cb)) (p := ⟨g19, 1, none⟩) (fun k hk => hk.2) (.int .i64 tb)) (fun _ _ => trivial) (ok' := fun _ => True)); have n_HT := ak (T2.box (T2.box (HT.1) (BK19.1) (by decide) GE19.1 0 (.slice Ab fb.length cb)) (blk_put (BK19.1) 0 (.slice Ab fb.length cb) rfl) (by decide) GE19.1 1 (.int .i64 tb)); generalize ((w19.setCell ⟨g19, 0, none⟩ (.slice Ab fb.length cb)).setCell ⟨g19, 1, none⟩ (.int .i64 tb)) = w19b at n_HT n_BK n_HB n_BK4 n_BK15 n_BK18 n_HL n_HS n_HD ⊢; clear HT; have HT := n_HT; clear n_HT; clear HB BK19 BK4 BK15 BK18 HL HS HD b0 b1 f0 f1; have BK19 := n_BK; have HB := n_HB; have BK4 := n_BK4; have BK15 := n_BK15; have BK18 := n_BK18; have HL := n_HL; have HS := n_HS; have HD := n_HD; clear n_BK n_HB n_BK4 n_BK15 n_BK18 n_HL n_HS n_HD

       obtain ⟨mn, hmn⟩ : ∃ mn : Nat, mm = (mn : Int) := by
        have h := HMM.1
        unfold layout_Rank.f at h
        split at h
        ·injection h with h; exact ⟨_, h.symm⟩
        ·cases h
       subst hmn; have hst3 := HS3.1; have hco := HCO.1; rw [Int.toNat_natCast] at hst3 hco; have hlm : st1.1.length = m := HT.1.ln; rw [hlm] at hco; clear HCO HS3; have HC1' := ak hco.1; have HC4' := ak hco.2.2.2; obtain ⟨d, hd⟩ : ∃ d, d = st1.1.getD rank 0 := ⟨_, rfl⟩; rw [← hd] at hst3 hco; have HS3 := ak hst3; have hwr : IntKind.i64.wrap (d + 1) = d + 1 := IntWalk.i64_in _ (by omega); have b0 := blk_cell BK19.1 0; have b1 := blk_cell BK19.1 1
       try simp at b0 b1
       have HD1 := ak hd
       have y9 : (mn : Int) < (m : Int) := by have := HC1'.1; omega
       have y10 : mn < m := HC1'.1; clear hco hst3 hd hlm d0 d1 e60 e61
       go_upto_region 20 with (go_at_call 31; refine (layout_Rank.calls _ _ fb tb _ _ (Kd.R_reads' HD.1).2.2 (Kd.R_reads' HD.1).2.1 HMM.1).mono ?_; rintro e w31 ⟨rfl, hb⟩; have n_BK4 := ak (blk_below BK4.1 hb); have n_BK15 := ak (blk_below BK15.1 hb); have n_HT := ak (HT.1.step hb); have n_HL := ak (Kd.R_below HL.1 hb); have n_HS := ak (Kd.R_below HS.1 hb); have n_HB := ak (below_step HB.1 hb); clear BK4; clear BK15; clear HT; clear HL; clear HS; clear HB; have BK4 := n_BK4; have BK15 := n_BK15; have HT := n_HT; have HL := n_HL; have HS := n_HS; have HB := n_HB; clear n_BK4 n_BK15 n_HT n_HL n_HS n_HB; clear hb)
       have cM := RowBlk.cell HT.1.bA 0 mn (by rw [HT.1.ln]; exact y10); have cR := RowBlk.cell HT.1.bA 0 rank (by rw [HT.1.ln]; exact y5); have fM := RowBlk.free HT.1.bA mn; rw [← HD1.1] at cR; obtain ⟨dm, hdm⟩ : ∃ x, x = st1.1.getD mn 0 := ⟨_, rfl⟩; rw [← hdm] at cM; have HDM := ak hdm; have hC := (Kd.Q_reads' HT.1.hq).2.2; obtain ⟨ad2, hAq, hcq⟩ := int_cells hC (by simp); subst hAq; have cq0 := hcq 0 (by simp); rw [add_zero_at2] at cq0
       simp at cq0
       clear hC hcq hdm b0 b1
       by_cases hneg : dm < 0
       ·have z1 : decide (dm < 0) = true := decide_eq_true hneg; have HNG := ak hneg; clear hneg; have HT2 := ak (HT.1.put mn (d + 1)); have BK4b := ak (blk_far (p := ⟨gA, mn, none⟩) BK4.1 (blk_ne BK4.1 HT.1.bA (by decide)) (.int .i64 (d + 1))); have BK15b := ak (blk_far (p := ⟨gA, mn, none⟩) BK15.1 (blk_ne BK15.1 HT.1.bA (by decide)) (.int .i64 (d + 1))); have HLb := ak (Kd.R_mono (Kd.R_far (Kd.R_types HL.1 HT.1.bA (by decide)) (p := ⟨gA, mn, none⟩) (fun k hk => hk.2) (.int .i64 (d + 1))) (fun _ _ => trivial) (ok' := fun _ => True)); have HSb := ak (Kd.R_mono (Kd.R_far (Kd.R_types HS.1 HT.1.bA (by decide)) (p := ⟨gA, mn, none⟩) (fun k hk => hk.2) (.int .i64 (d + 1))) (fun _ _ => trivial) (ok' := fun _ => True))
        go_wp2_with (at_builtin; go_loud (refine Kd.Q_append (Kd.int .i64) (w0 := w) w.heap.size rfl (.tmp 103) (.tmp 105) 22 3 (.int .i64 0) 8 rfl Try.underlying22 info3 rfl (by decide) (by omega) _ _ (mn : Int) [.int .i64 (mn : Int)] (fun k => k ≠ gA) (fun _ => False) rfl (by simp only [World.size_setCell]; rfl) rfl (fun _ hk => hk.elim) (fun k hk => by have := blk_lt HT2.1.bA; omega) HT2.1.hq HT2.1.below HT2.1.le (by rw [List.length_map, List.length_cons]; have := HC4'.1; omega) ?_); intro v1 wa ho hb hg hat; have HA := ak (HT2.1.app ho hg); have BK4c := ak (HA.1.2 _ _ _ BK4b.1 (by decide)); have BK15c := ak (HA.1.2 _ _ _ BK15b.1 (by decide)); have HLc := ak (R_grown_q HLb.1 (by decide) HT2.1.hq hg); have HSc := ak (R_grown_q HSb.1 (by decide) HT2.1.hq hg); clear ho hb hg hat)
        go_roundg (gk - 1)
        case measure => have := HJ.1; omega
        case rel => exact ⟨j + 1, st3, by
          obtain ⟨_, inner, ho, _⟩ := Kd.Q_of_R HSc.1; have hmx := q_max ho; have e : wrap64 ((j : Int) + 1) = (j : Int) + 1 := wrap_id (by omega) (by omega)
          first | rfl | (rw [e]; rfl) | simp [e], ⟨by have := HJ.1; omega⟩, ⟨by
          have h := HA.1.1; have e3 := HS3.1
          unfold reachP at e3
          rw [← HDM.1, if_pos HNG.1] at e3; rw [← e3]
          show T2 w gA m wa v1 (st1.1.set mn (d + 1)) (intz (rank :: (st1.2 ++ [mn])))
          have e4 : intz (rank :: (st1.2 ++ [mn])) = intz (rank :: st1.2) ++ [(mn : Int)] := by simp [intz]
          rw [e4]
          exact h⟩, HST2, BK4c, BK15c, HLc, HSc⟩
       ·have z1 : decide (dm < 0) = false := decide_eq_false hneg; have HNG := ak hneg; clear hneg
        go_wp2_with fail
        go_roundg (gk - 1)
        case measure => have := HJ.1; omega
        case rel => exact ⟨j + 1, st3, by
          obtain ⟨_, inner, ho, _⟩ := Kd.Q_of_R HS.1; have hmx := q_max ho; have e : wrap64 ((j : Int) + 1) = (j : Int) + 1 := wrap_id (by omega) (by omega)
          first | rfl | (rw [e]; rfl) | simp [e], ⟨by have := HJ.1; omega⟩, ⟨by
          have e3 := HS3.1
          unfold reachP at e3
          rw [← HDM.1, if_neg (Int.not_lt.2 HNG.1)] at e3; rw [← e3]
          exact HT.1⟩, HST2, BK4, BK15, HL, HS⟩
      ·have hje : j = ss.length := by have := HJ.1; omega
       have y6 : decide ((j : Int) < (ss.length : Int)) = false := decide_eq_false (by omega); have y7 : decide (j < ss.length) = false := decide_eq_false (by omega)
       have y8 : (ss.length : Int) ≤ (j : Int) := by omega
       have HSE := ak (show st1 = st2 by
        have h := HST.1; rw [hje, List.drop_of_length_le (Nat.le_refl _)] at h; simp only [backsP] at h
        injection h)
       clear hje hj; have hC := (Kd.Q_reads' HT.1.hq).2.2; obtain ⟨ad2, hAq, _⟩ := int_cells hC (by simp); subst hAq; clear hC; have hd : (Kd.int .i64).Q 3 wr w.heap.size (fun k => k ≠ gA) _ (intz st1.2) := Kd.Q_drop (k := 1) HT.1.hq (by simp); have HT2 := ak (HT.1.setq hd); have HQ2 := ak hqc2; clear hd hqc2
       by_cases hcq1 : cq2 = 1
       ·subst hcq1; have hq0 : st1.2 = [] := List.eq_nil_of_length_eq_zero (by have := HQ2.1; omega); have HQ0 := ak hq0; rw [hq0] at HT2 ⊢; clear hq0
        go_wp2_with fail
        go_roundg f
        case measure => omega
        case rel => exact ⟨st2, HBF, ⟨by rw [← HSE.1, HQ0.1]; exact HT2.1⟩, BK4⟩
       ·have hc1 : 1 < cq2 := by have := HQ2.1; omega
        have hc2 : ¬ cq2 = 1 := hcq1
        go_wp2_with fail
        go_roundg f
        case measure => omega
        case rel => exact ⟨st2, HBF, ⟨by
         have h := HT2.1; rw [if_neg hc2] at h; rw [← HSE.1]
         exact h⟩, BK4⟩
end Go.Proofs.Ytogmjilaiopjmaa.P
end
section
namespace Go.Proofs.Ytogmjilaiopjmaa.P
theorem init2_rel (n k : Nat) (g : Int) : ∀ i, i ≤ cntN n k → (initP2 n k g i).2 = (initP n k g i).2 ∧ ∀ x, x < cntN n k → (initP2 n k g i).1.getD x 0 = if x < i then (initP n k g i).1.getD x 0 else -1
 | 0, _ => ⟨rfl, fun x hx => by
  rw [if_neg (by omega)]
  simp [initP2, List.getD_eq_getElem?_getD, List.getElem?_replicate, hx]⟩
 | i + 1, hi => by
  obtain ⟨h1, h2⟩ := init2_rel n k g i (by omega); have l2 := (initP2_len n k g i).1; have l1 := initP_len n k g i; have hg : ∀ x, ((initP n k g i).1.set i (-1)).getD x 0 = if x = i then -1 else (initP n k g i).1.getD x 0 := fun x => getD_set _ _ _ _ (by omega); simp only [initP2, initP]
  by_cases ht : (unrT n k i : Int) = g
  ·rw [if_pos ht, if_pos ht]
   unfold reachP
   rw [if_pos (by show ((initP n k g i).1.set i (-1)).getD i 0 < 0; rw [hg, if_pos rfl]; omega)]; refine ⟨by rw [h1], fun x hx => ?_⟩; dsimp only; rw [getD_set _ _ _ _ (by omega), getD_set _ _ _ _ (by simpa using (show i < (initP n k g i).1.length by omega)), hg, h2 x hx]
   by_cases e : x = i
   ·subst e; rw [if_pos rfl, if_pos rfl, if_pos (by omega)]
   ·rw [if_neg e, if_neg e, if_neg e]
    by_cases q : x < i
    ·rw [if_pos q, if_pos (by omega)]
    ·rw [if_neg q, if_neg (by omega)]
  ·rw [if_neg ht, if_neg ht]; refine ⟨h1, fun x hx => ?_⟩; dsimp only; rw [hg, h2 x hx]
   by_cases e : x = i
   ·subst e; rw [if_neg (by omega), if_pos (by omega), if_pos rfl]
   ·rw [if_neg e]
    by_cases q : x < i
    ·rw [if_pos q, if_pos (by omega)]
    ·rw [if_neg q, if_neg (by omega)]
theorem init2_eq (n k : Nat) (g : Int) : initP2 n k g (cntN n k) = initP n k g (cntN n k) := by
 obtain ⟨h1, h2⟩ := init2_rel n k g (cntN n k) (Nat.le_refl _); refine Prod.ext ?_ h1; have l2 := (initP2_len n k g (cntN n k)).1; have l1 := initP_len n k g (cntN n k); refine List.ext_getElem (by omega) fun x a b => ?_; have := h2 x (by omega); rw [if_pos (by omega)] at this
 simpa [List.getD_eq_getElem?_getD, a, b] using this
def ptab (W H D : Int) (K O r : List Int) (k : Nat) (g : Nat) : Option (List Int) := bfsP W H D K O r r.length k (cntN r.length k + 1) (initP2 r.length k (g : Int) (cntN r.length k)).1 (initP2 r.length k (g : Int) (cntN r.length k)).2
theorem ptab_ok {W H D : Int} {K O r : List Int} {k g : Nat} (hf : FloorOk W H D K O) (hs : r.Pairwise (· < ·)) (hk : 1 ≤ k) (hk2 : k ≤ r.length) (hg : g < r.length) (hn : r.length ≤ 24) (hm : cntN r.length k ≤ 24576) :
  ∃ out, ptab W H D K O r k g = some out ∧ TableOk W H D K O r r.length k (g : Int) out := by
 obtain ⟨out, p, h1, i⟩ := bfs_ok (n := r.length) hf hs hk hk2 rfl hn hm (cntN r.length k + 1) _ _ _ (init_inv (g : Int)) (by have := (init_inv (W := W) (H := H) (D := D) (K := K) (O := O) (r := r) (n := r.length) (k := k) (g : Int)).budget; omega); refine ⟨out, by unfold ptab; rw [init2_eq]; exact h1, i.len, i.lo, fun x hx => ?_, i.zero, fun x y hx hy he h0 => ?_, fun x hx h0 => ?_⟩
 ·have h2 := i.bd x hx; have h3 := i.budget
  omega
 ·rcases i.done x hx h0 with h2 | h2
  ·simp at h2
  ·exact h2 y ((mem_predN hk hk2 rfl hx).2 ⟨hy, he⟩)
 ·obtain ⟨z, hz, h2, h3⟩ := i.from_ x hx h0; exact ⟨z, hz, ((mem_predN hk hk2 rfl hz).1 h2).2, h3⟩
end Go.Proofs.Ytogmjilaiopjmaa.P
end
