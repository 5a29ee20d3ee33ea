/- Lemmas for the row of this claim: contracts of the functions that it reaches, and plain laws about numbers and lists. -/
import Derived.Test.YtogmjilaiopjmaaMore5
import Derived.IntWalk
set_option linter.unusedVariables false
set_option linter.unusedSimpArgs false
section
namespace Go.Proofs.Ytogmjilaiopjmaa.P
open Go.RowKit Go.Proofs.YtogmjilaiopjmaaW.PrintWords Go.Proofs.YtogmjilaiopjmaaW.PrintLast Go.Proofs.YtogmjilaiopjmaaW.PrintMore
attribute [local go_sem high] eqA51
set_option maxHeartbeats 2000000 in
set_option maxRecDepth 100000 in
theorem compact_same (A : Option Addr) (n c : Nat) (f0 f1 : Nat → Int) (w : World) (hn : n ≤ 1000000) (hA : 0 < n → ∃ g, A = some ⟨g, 0, none⟩ ∧ ∀ i, i < n → w.cell? ⟨g, i * 2, none⟩ = some (.int .i64 (f0 i)) ∧ w.cell? ⟨g, i * 2 + 1, none⟩ = some (.int .i64 (f1 i)))
  (hd : ∀ i, i + 1 < n → ¬ (f0 (i + 1) = f0 i ∧ f1 (i + 1) = f1 i)) :
  Calls Try.prog 87 #[.slice A n c] w fun e w' => e = .returned (.slice A n c) ∧ ∃ m, w' = w.drewN m := by
 have hu51 := Try.underlying51
 by_cases h2 : n < 2
 ·have x1 : decide ((n : Int) < 2) = true := decide_eq_true (by omega); clear h2 hA hd
  go_enter Try.func87, Try.ntmps87
  go_wp2
  go_ret
  exact ⟨rfl, 0, rfl⟩
 have x1 : decide ((n : Int) < 2) = false := decide_eq_false (by omega); obtain ⟨g, rfl, hc⟩ := hA (by omega); have HC := ak hc; have HD := ak hd; have HN := ak hn; have H2 := ak h2; clear hA hc hd hn h2
 go_enter Try.func87, Try.ntmps87
 go_wp2_with fail
 go_loopg [3] n (fun kq v3 w' => ∃ (k m : Nat), v3 = .int .i64 (k : Int) ∧ w' = w.drewN m ∧ Aside0 (kq + k = n + 1 ∧ 1 ≤ k ∧ k ≤ n))
 case atStart => exact ⟨1, 0, rfl, rfl, ⟨by have := H2.1; omega⟩⟩
 case round =>
  obtain ⟨k, m, rfl, rfl, HK⟩ := hrel
  by_cases hk : k < n
  ·have y1 : decide ((k : Int) < (n : Int)) = true := decide_eq_true (by omega)
   have y2 : (k : Int) < (n : Int) := by omega
   have k1 := HK.1.2.1; have s1 : IntKind.i64.wrap ((k : Int) - 1) = (k : Int) - 1 := IntWalk.i64_in _ (by have := HN.1; omega)
   have t1 : ((k : Int) - 1).toNat = k - 1 := by omega
   have p1 : (0 : Int) ≤ (k : Int) - 1 := by omega
   have p2 : (1 : Int) ≤ (k : Int) := by omega
   have p3 : (k : Int) - 1 < (n : Int) := by omega
   obtain ⟨c1, c2⟩ := HC.1 k hk; obtain ⟨c3, c4⟩ := HC.1 (k - 1) (by omega)
   have hne : ((f0 k == f0 (k - 1)) && (f1 k == f1 (k - 1))) = false := by
    have h := HD.1 (k - 1) (by omega); rw [show k - 1 + 1 = k by omega] at h
    by_cases e : f0 k = f0 (k - 1)
    ·have : ¬ f1 k = f1 (k - 1) := fun e' => h ⟨e, e'⟩
     simp [this]
    ·simp [e]
   clear hk k1
   go_wp2_with fail
   go_quiet (fail)
   go_wp2_with fail
   go_roundg (gk - 1)
   case measure => have := HK.1; omega
   case rel => exact ⟨k + 1, _, by first | rfl | (rw [wrap_id (by omega) (by have := HN.1; omega)]; rfl) | (simp; done), by first | exact World.drewN_drewN .. | rfl, ⟨by have := HK.1; omega⟩⟩
  ·have y1 : decide ((k : Int) < (n : Int)) = false := decide_eq_false (by omega)
   have y2 : (n : Int) ≤ (k : Int) := by omega
   clear hk
   go_wp2
   go_outline
   go_ways
   go_ret
   exact ⟨rfl, m, rfl⟩
end Go.Proofs.Ytogmjilaiopjmaa.P
end
