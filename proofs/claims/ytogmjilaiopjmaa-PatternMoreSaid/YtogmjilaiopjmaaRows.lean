/-
  No cell of these rows narrows 'for every input' (looked for: loops, veiled, ifaces, maps, wideKeys, modest, calm, conditions, laid).
  DERIVED. THE GIVEN ROWS OF THIS SEAT. 11 by the template 'for every input the law returns true; each argument reads behind the call as it read before'; 0 by the template 'total and deterministic' (their statements: YtogmjilaiopjmaaTotals.lean).
  GIVEN WITH THE SEED: the statements are not yours to turn. If you find one false, say at which input.
  Laid BY PROGRAM, IN A SANDBOX (cutbox-rows.mjs): the forced cells as the released guide's own fill.sh prints them over the translation aa4fd42547ca36a5… (all of the seat's roots in one cut). By AI agents, Wed Nov 11 2026. No macro, syntax, notation, axiom, sorry.
-/
import Derived.Test.YtogmjilaiopjmaaChecked
import GoSem.Claim
import GoSem.ClaimJoined
import GoSem.ClaimMapViews
import Derived.JoinedTies
import Derived.KernelRfl
namespace Go.Proofs.Ytogmjilaiopjmaa
/- THE CELL 'sum', in the pinned program and in every row, IS THE sha256 OF THE DUMP (.gsa) THAT YtogmjilaiopjmaaProg.lean LOADS. Nothing in Lean hashes anything: it is a label: what it is worth is what the hold of that sum in a sandbox is worth. -/
noncomputable def Try.pinned : Pinned := { name := "ytogmjilaiopjmaa", sum := "aa4fd42547ca36a583bbb08160d0d959b30295ed4d4814697bcf710e2a2ef50e", checked := Try.checked }
namespace Rows
def none {H : Type} : Left H := { results := [], args := [] }

/-- 'taquinlaw26.PuzzleTells': WHATEVER THE INPUT: true; the input reads as it did. -/
def puzzleTellsSpec : ChangeSpec := { name := "puzzleTells", fn := fun _ => fun
  | [d1, d2, d3, d4, d5] => { results := [.lit (.bool true)], args := [d1, d2, d3, d4, d5] }
  | _ => none }
def puzzleTellsRow : OpenClaim := { program := "ytogmjilaiopjmaa", sum := "aa4fd42547ca36a583bbb08160d0d959b30295ed4d4814697bcf710e2a2ef50e", func := "taquin/taquinlaw26.PuzzleTells", spec := "puzzleTells", unfollowed := true, recurses := true, apart := false }
def PuzzleTellsSaid : Prop := puzzleTellsRow.holds Try.pinned (OpenSpec.ofChange puzzleTellsSpec)

/-- ITS FALSE NEIGHBOUR: 'it returns false'. Refute it at one input. -/
def puzzleTellsWrong : ChangeSpec := { name := "puzzleTells", fn := fun _ => fun
  | [d1, d2, d3, d4, d5] => { results := [.lit (.bool false)], args := [d1, d2, d3, d4, d5] }
  | _ => none }
def PuzzleTellsWrongFalsely : Prop := puzzleTellsRow.holds Try.pinned (OpenSpec.ofChange puzzleTellsWrong)

/-- 'taquinlaw26.PuzzleSteps': WHATEVER THE INPUT: true; the input reads as it did. -/
def puzzleStepsSpec : ChangeSpec := { name := "puzzleSteps", fn := fun _ => fun
  | [d1, d2, d3, d4] => { results := [.lit (.bool true)], args := [d1, d2, d3, d4] }
  | _ => none }
def puzzleStepsRow : OpenClaim := { program := "ytogmjilaiopjmaa", sum := "aa4fd42547ca36a583bbb08160d0d959b30295ed4d4814697bcf710e2a2ef50e", func := "taquin/taquinlaw26.PuzzleSteps", spec := "puzzleSteps", unfollowed := true, recurses := true, apart := false }
def PuzzleStepsSaid : Prop := puzzleStepsRow.holds Try.pinned (OpenSpec.ofChange puzzleStepsSpec)

/-- ITS FALSE NEIGHBOUR: 'it returns false'. Refute it at one input. -/
def puzzleStepsWrong : ChangeSpec := { name := "puzzleSteps", fn := fun _ => fun
  | [d1, d2, d3, d4] => { results := [.lit (.bool false)], args := [d1, d2, d3, d4] }
  | _ => none }
def PuzzleStepsWrongFalsely : Prop := puzzleStepsRow.holds Try.pinned (OpenSpec.ofChange puzzleStepsWrong)

/-- 'taquinlaw26.PuzzleSolves': WHATEVER THE INPUT: true; the input reads as it did. -/
def puzzleSolvesSpec : ChangeSpec := { name := "puzzleSolves", fn := fun _ => fun
  | [d1, d2, d3, d4] => { results := [.lit (.bool true)], args := [d1, d2, d3, d4] }
  | _ => none }
def puzzleSolvesRow : OpenClaim := { program := "ytogmjilaiopjmaa", sum := "aa4fd42547ca36a583bbb08160d0d959b30295ed4d4814697bcf710e2a2ef50e", func := "taquin/taquinlaw26.PuzzleSolves", spec := "puzzleSolves", unfollowed := true, recurses := true, apart := false }
def PuzzleSolvesSaid : Prop := puzzleSolvesRow.holds Try.pinned (OpenSpec.ofChange puzzleSolvesSpec)

/-- ITS FALSE NEIGHBOUR: 'it returns false'. Refute it at one input. -/
def puzzleSolvesWrong : ChangeSpec := { name := "puzzleSolves", fn := fun _ => fun
  | [d1, d2, d3, d4] => { results := [.lit (.bool false)], args := [d1, d2, d3, d4] }
  | _ => none }
def PuzzleSolvesWrongFalsely : Prop := puzzleSolvesRow.holds Try.pinned (OpenSpec.ofChange puzzleSolvesWrong)

/-- 'taquinlaw26.PuzzleWalks': WHATEVER THE INPUT: true; the input reads as it did. -/
def puzzleWalksSpec : ChangeSpec := { name := "puzzleWalks", fn := fun _ => fun
  | [d1, d2, d3, d4, d5] => { results := [.lit (.bool true)], args := [d1, d2, d3, d4, d5] }
  | _ => none }
def puzzleWalksRow : OpenClaim := { program := "ytogmjilaiopjmaa", sum := "aa4fd42547ca36a583bbb08160d0d959b30295ed4d4814697bcf710e2a2ef50e", func := "taquin/taquinlaw26.PuzzleWalks", spec := "puzzleWalks", unfollowed := true, recurses := true, apart := false }
def PuzzleWalksSaid : Prop := puzzleWalksRow.holds Try.pinned (OpenSpec.ofChange puzzleWalksSpec)

/-- ITS FALSE NEIGHBOUR: 'it returns false'. Refute it at one input. -/
def puzzleWalksWrong : ChangeSpec := { name := "puzzleWalks", fn := fun _ => fun
  | [d1, d2, d3, d4, d5] => { results := [.lit (.bool false)], args := [d1, d2, d3, d4, d5] }
  | _ => none }
def PuzzleWalksWrongFalsely : Prop := puzzleWalksRow.holds Try.pinned (OpenSpec.ofChange puzzleWalksWrong)

/-- 'taquinlaw26.PuzzleBack': WHATEVER THE INPUT: true; the input reads as it did. -/
def puzzleBackSpec : ChangeSpec := { name := "puzzleBack", fn := fun _ => fun
  | [d1, d2, d3, d4, d5] => { results := [.lit (.bool true)], args := [d1, d2, d3, d4, d5] }
  | _ => none }
def puzzleBackRow : OpenClaim := { program := "ytogmjilaiopjmaa", sum := "aa4fd42547ca36a583bbb08160d0d959b30295ed4d4814697bcf710e2a2ef50e", func := "taquin/taquinlaw26.PuzzleBack", spec := "puzzleBack", unfollowed := true, recurses := true, apart := false }
def PuzzleBackSaid : Prop := puzzleBackRow.holds Try.pinned (OpenSpec.ofChange puzzleBackSpec)

/-- ITS FALSE NEIGHBOUR: 'it returns false'. Refute it at one input. -/
def puzzleBackWrong : ChangeSpec := { name := "puzzleBack", fn := fun _ => fun
  | [d1, d2, d3, d4, d5] => { results := [.lit (.bool false)], args := [d1, d2, d3, d4, d5] }
  | _ => none }
def PuzzleBackWrongFalsely : Prop := puzzleBackRow.holds Try.pinned (OpenSpec.ofChange puzzleBackWrong)

/-- 'taquinlaw27.PatternMore': WHATEVER THE INPUT: true; the input reads as it did. -/
def patternMoreSpec : ChangeSpec := { name := "patternMore", fn := fun _ => fun
  | [d1, d2, d3, d4, d5] => { results := [.lit (.bool true)], args := [d1, d2, d3, d4, d5] }
  | _ => none }
def patternMoreRow : OpenClaim := { program := "ytogmjilaiopjmaa", sum := "aa4fd42547ca36a583bbb08160d0d959b30295ed4d4814697bcf710e2a2ef50e", func := "taquin/taquinlaw27.PatternMore", spec := "patternMore", unfollowed := true, recurses := true, apart := false }
def PatternMoreSaid : Prop := patternMoreRow.holds Try.pinned (OpenSpec.ofChange patternMoreSpec)

/-- ITS FALSE NEIGHBOUR: 'it returns false'. Refute it at one input. -/
def patternMoreWrong : ChangeSpec := { name := "patternMore", fn := fun _ => fun
  | [d1, d2, d3, d4, d5] => { results := [.lit (.bool false)], args := [d1, d2, d3, d4, d5] }
  | _ => none }
def PatternMoreWrongFalsely : Prop := patternMoreRow.holds Try.pinned (OpenSpec.ofChange patternMoreWrong)

/-- 'taquinlaw27.PatternConsistent': WHATEVER THE INPUT: true; the input reads as it did. -/
def patternConsistentSpec : ChangeSpec := { name := "patternConsistent", fn := fun _ => fun
  | [d1, d2, d3, d4, d5] => { results := [.lit (.bool true)], args := [d1, d2, d3, d4, d5] }
  | _ => none }
def patternConsistentRow : OpenClaim := { program := "ytogmjilaiopjmaa", sum := "aa4fd42547ca36a583bbb08160d0d959b30295ed4d4814697bcf710e2a2ef50e", func := "taquin/taquinlaw27.PatternConsistent", spec := "patternConsistent", unfollowed := true, recurses := true, apart := false }
def PatternConsistentSaid : Prop := patternConsistentRow.holds Try.pinned (OpenSpec.ofChange patternConsistentSpec)

/-- ITS FALSE NEIGHBOUR: 'it returns false'. Refute it at one input. -/
def patternConsistentWrong : ChangeSpec := { name := "patternConsistent", fn := fun _ => fun
  | [d1, d2, d3, d4, d5] => { results := [.lit (.bool false)], args := [d1, d2, d3, d4, d5] }
  | _ => none }
def PatternConsistentWrongFalsely : Prop := patternConsistentRow.holds Try.pinned (OpenSpec.ofChange patternConsistentWrong)

/-- 'taquinlaw27.PatternTells': WHATEVER THE INPUT: true; the input reads as it did. -/
def patternTellsSpec : ChangeSpec := { name := "patternTells", fn := fun _ => fun
  | [d1, d2, d3, d4, d5] => { results := [.lit (.bool true)], args := [d1, d2, d3, d4, d5] }
  | _ => none }
def patternTellsRow : OpenClaim := { program := "ytogmjilaiopjmaa", sum := "aa4fd42547ca36a583bbb08160d0d959b30295ed4d4814697bcf710e2a2ef50e", func := "taquin/taquinlaw27.PatternTells", spec := "patternTells", unfollowed := true, recurses := true, apart := false }
def PatternTellsSaid : Prop := patternTellsRow.holds Try.pinned (OpenSpec.ofChange patternTellsSpec)

/-- ITS FALSE NEIGHBOUR: 'it returns false'. Refute it at one input. -/
def patternTellsWrong : ChangeSpec := { name := "patternTells", fn := fun _ => fun
  | [d1, d2, d3, d4, d5] => { results := [.lit (.bool false)], args := [d1, d2, d3, d4, d5] }
  | _ => none }
def PatternTellsWrongFalsely : Prop := patternTellsRow.holds Try.pinned (OpenSpec.ofChange patternTellsWrong)

/-- 'taquinlaw27.PatternLimits': WHATEVER THE INPUT: true; the input reads as it did. -/
def patternLimitsSpec : ChangeSpec := { name := "patternLimits", fn := fun _ => fun
  | [d1, d2, d3, d4] => { results := [.lit (.bool true)], args := [d1, d2, d3, d4] }
  | _ => none }
def patternLimitsRow : OpenClaim := { program := "ytogmjilaiopjmaa", sum := "aa4fd42547ca36a583bbb08160d0d959b30295ed4d4814697bcf710e2a2ef50e", func := "taquin/taquinlaw27.PatternLimits", spec := "patternLimits", unfollowed := true, recurses := true, apart := false }
def PatternLimitsSaid : Prop := patternLimitsRow.holds Try.pinned (OpenSpec.ofChange patternLimitsSpec)

/-- ITS FALSE NEIGHBOUR: 'it returns false'. Refute it at one input. -/
def patternLimitsWrong : ChangeSpec := { name := "patternLimits", fn := fun _ => fun
  | [d1, d2, d3, d4] => { results := [.lit (.bool false)], args := [d1, d2, d3, d4] }
  | _ => none }
def PatternLimitsWrongFalsely : Prop := patternLimitsRow.holds Try.pinned (OpenSpec.ofChange patternLimitsWrong)

/-- 'taquinlaw27.PatternBounds': WHATEVER THE INPUT: true; the input reads as it did. -/
def patternBoundsSpec : ChangeSpec := { name := "patternBounds", fn := fun _ => fun
  | [d1, d2, d3, d4, d5] => { results := [.lit (.bool true)], args := [d1, d2, d3, d4, d5] }
  | _ => none }
def patternBoundsRow : OpenClaim := { program := "ytogmjilaiopjmaa", sum := "aa4fd42547ca36a583bbb08160d0d959b30295ed4d4814697bcf710e2a2ef50e", func := "taquin/taquinlaw27.PatternBounds", spec := "patternBounds", unfollowed := true, recurses := true, apart := false }
def PatternBoundsSaid : Prop := patternBoundsRow.holds Try.pinned (OpenSpec.ofChange patternBoundsSpec)

/-- ITS FALSE NEIGHBOUR: 'it returns false'. Refute it at one input. -/
def patternBoundsWrong : ChangeSpec := { name := "patternBounds", fn := fun _ => fun
  | [d1, d2, d3, d4, d5] => { results := [.lit (.bool false)], args := [d1, d2, d3, d4, d5] }
  | _ => none }
def PatternBoundsWrongFalsely : Prop := patternBoundsRow.holds Try.pinned (OpenSpec.ofChange patternBoundsWrong)

/-- 'taquinlaw28.RelocateTrips': WHATEVER THE INPUT: true; the input reads as it did. -/
def relocateTripsSpec : ChangeSpec := { name := "relocateTrips", fn := fun _ => fun
  | [d] => { results := [.lit (.bool true)], args := [d] }
  | _ => none }
def relocateTripsRow : OpenClaim := { program := "ytogmjilaiopjmaa", sum := "aa4fd42547ca36a583bbb08160d0d959b30295ed4d4814697bcf710e2a2ef50e", func := "taquin/taquinlaw28.RelocateTrips", spec := "relocateTrips", inPlace := ["slices.overlaps[taquin/relocate.node]"], unfollowed := true, recurses := true, apart := false }
def RelocateTripsSaid : Prop := relocateTripsRow.holds Try.pinned (OpenSpec.ofChange relocateTripsSpec)

/-- ITS FALSE NEIGHBOUR: 'it returns false'. Refute it at one input. -/
def relocateTripsWrong : ChangeSpec := { name := "relocateTrips", fn := fun _ => fun
  | [d] => { results := [.lit (.bool false)], args := [d] }
  | _ => none }
def RelocateTripsWrongFalsely : Prop := relocateTripsRow.holds Try.pinned (OpenSpec.ofChange relocateTripsWrong)

/- THE SECOND FORM. 'bulk': how many values and letters a reading holds, each counted each time it is reached (what is shared counts as often as it is met; a slice's spare places count too). A statement '..UptoSaid' is the law's where the arguments, and the package variables that the reading takes, are together of bulk at most 1048576: NARROWER than '..Said'. Prove '..Said' where nothing that the law and all that it calls make is longer than what came in: it says more and counts as full. Else prove '..UptoSaid'. A law counts once. -/
mutual
def uptoBulk {H : Type} : DataW H → Nat
  | .lit (.string bytes) => bytes.length + 1
  | .lit _ => 1
  | .nil => 1
  | .ptr d => uptoBulk d + 1
  | .slice elems spare => uptoBulkAll elems + uptoBulkAll spare + 1
  | .agg parts => uptoBulkAll parts + 1
  | .iface _ d => uptoBulk d + 1
  | .map entries => uptoBulkEntries entries + 1
  | .held _ => 1
def uptoBulkAll {H : Type} : List (DataW H) → Nat
  | [] => 0
  | d :: r => uptoBulk d + uptoBulkAll r
def uptoBulkEntries {H : Type} : List (Lit × DataW H) → Nat
  | [] => 0
  | x :: r => uptoBulkEntry x + uptoBulkEntries r
def uptoBulkEntry {H : Type} : Lit × DataW H → Nat
  | (.string bytes, d) => bytes.length + uptoBulk d + 1
  | (_, d) => uptoBulk d + 1
 end
def uptoSmall : (H : Type) → List (DataW H) → Bool := fun _ ds => decide (uptoBulkAll ds ≤ 1048576)
def OpenSpec.upto (s : _root_.Go.ChangeSpec) : _root_.Go.OpenSpec := { _root_.Go.OpenSpec.ofChange s with cond := some uptoSmall }

/-- 'taquinlaw26.PuzzleTells', WHERE WHAT IT READS IS OF BULK AT MOST 1048576: true; the input reads as it did. -/
def puzzleTellsUptoRow : OpenClaim := { program := "ytogmjilaiopjmaa", sum := "aa4fd42547ca36a583bbb08160d0d959b30295ed4d4814697bcf710e2a2ef50e", func := "taquin/taquinlaw26.PuzzleTells", spec := "puzzleTells", unfollowed := true, recurses := true, apart := false, narrowed := true }
def PuzzleTellsUptoSaid : Prop := puzzleTellsUptoRow.holds Try.pinned (OpenSpec.upto puzzleTellsSpec)

/-- 'taquinlaw26.PuzzleSteps', WHERE WHAT IT READS IS OF BULK AT MOST 1048576: true; the input reads as it did. -/
def puzzleStepsUptoRow : OpenClaim := { program := "ytogmjilaiopjmaa", sum := "aa4fd42547ca36a583bbb08160d0d959b30295ed4d4814697bcf710e2a2ef50e", func := "taquin/taquinlaw26.PuzzleSteps", spec := "puzzleSteps", unfollowed := true, recurses := true, apart := false, narrowed := true }
def PuzzleStepsUptoSaid : Prop := puzzleStepsUptoRow.holds Try.pinned (OpenSpec.upto puzzleStepsSpec)

/-- 'taquinlaw26.PuzzleSolves', WHERE WHAT IT READS IS OF BULK AT MOST 1048576: true; the input reads as it did. -/
def puzzleSolvesUptoRow : OpenClaim := { program := "ytogmjilaiopjmaa", sum := "aa4fd42547ca36a583bbb08160d0d959b30295ed4d4814697bcf710e2a2ef50e", func := "taquin/taquinlaw26.PuzzleSolves", spec := "puzzleSolves", unfollowed := true, recurses := true, apart := false, narrowed := true }
def PuzzleSolvesUptoSaid : Prop := puzzleSolvesUptoRow.holds Try.pinned (OpenSpec.upto puzzleSolvesSpec)

/-- 'taquinlaw26.PuzzleWalks', WHERE WHAT IT READS IS OF BULK AT MOST 1048576: true; the input reads as it did. -/
def puzzleWalksUptoRow : OpenClaim := { program := "ytogmjilaiopjmaa", sum := "aa4fd42547ca36a583bbb08160d0d959b30295ed4d4814697bcf710e2a2ef50e", func := "taquin/taquinlaw26.PuzzleWalks", spec := "puzzleWalks", unfollowed := true, recurses := true, apart := false, narrowed := true }
def PuzzleWalksUptoSaid : Prop := puzzleWalksUptoRow.holds Try.pinned (OpenSpec.upto puzzleWalksSpec)

/-- 'taquinlaw26.PuzzleBack', WHERE WHAT IT READS IS OF BULK AT MOST 1048576: true; the input reads as it did. -/
def puzzleBackUptoRow : OpenClaim := { program := "ytogmjilaiopjmaa", sum := "aa4fd42547ca36a583bbb08160d0d959b30295ed4d4814697bcf710e2a2ef50e", func := "taquin/taquinlaw26.PuzzleBack", spec := "puzzleBack", unfollowed := true, recurses := true, apart := false, narrowed := true }
def PuzzleBackUptoSaid : Prop := puzzleBackUptoRow.holds Try.pinned (OpenSpec.upto puzzleBackSpec)

/-- 'taquinlaw27.PatternMore', WHERE WHAT IT READS IS OF BULK AT MOST 1048576: true; the input reads as it did. -/
def patternMoreUptoRow : OpenClaim := { program := "ytogmjilaiopjmaa", sum := "aa4fd42547ca36a583bbb08160d0d959b30295ed4d4814697bcf710e2a2ef50e", func := "taquin/taquinlaw27.PatternMore", spec := "patternMore", unfollowed := true, recurses := true, apart := false, narrowed := true }
def PatternMoreUptoSaid : Prop := patternMoreUptoRow.holds Try.pinned (OpenSpec.upto patternMoreSpec)

/-- 'taquinlaw27.PatternConsistent', WHERE WHAT IT READS IS OF BULK AT MOST 1048576: true; the input reads as it did. -/
def patternConsistentUptoRow : OpenClaim := { program := "ytogmjilaiopjmaa", sum := "aa4fd42547ca36a583bbb08160d0d959b30295ed4d4814697bcf710e2a2ef50e", func := "taquin/taquinlaw27.PatternConsistent", spec := "patternConsistent", unfollowed := true, recurses := true, apart := false, narrowed := true }
def PatternConsistentUptoSaid : Prop := patternConsistentUptoRow.holds Try.pinned (OpenSpec.upto patternConsistentSpec)

/-- 'taquinlaw27.PatternTells', WHERE WHAT IT READS IS OF BULK AT MOST 1048576: true; the input reads as it did. -/
def patternTellsUptoRow : OpenClaim := { program := "ytogmjilaiopjmaa", sum := "aa4fd42547ca36a583bbb08160d0d959b30295ed4d4814697bcf710e2a2ef50e", func := "taquin/taquinlaw27.PatternTells", spec := "patternTells", unfollowed := true, recurses := true, apart := false, narrowed := true }
def PatternTellsUptoSaid : Prop := patternTellsUptoRow.holds Try.pinned (OpenSpec.upto patternTellsSpec)

/-- 'taquinlaw27.PatternLimits', WHERE WHAT IT READS IS OF BULK AT MOST 1048576: true; the input reads as it did. -/
def patternLimitsUptoRow : OpenClaim := { program := "ytogmjilaiopjmaa", sum := "aa4fd42547ca36a583bbb08160d0d959b30295ed4d4814697bcf710e2a2ef50e", func := "taquin/taquinlaw27.PatternLimits", spec := "patternLimits", unfollowed := true, recurses := true, apart := false, narrowed := true }
def PatternLimitsUptoSaid : Prop := patternLimitsUptoRow.holds Try.pinned (OpenSpec.upto patternLimitsSpec)

/-- 'taquinlaw27.PatternBounds', WHERE WHAT IT READS IS OF BULK AT MOST 1048576: true; the input reads as it did. -/
def patternBoundsUptoRow : OpenClaim := { program := "ytogmjilaiopjmaa", sum := "aa4fd42547ca36a583bbb08160d0d959b30295ed4d4814697bcf710e2a2ef50e", func := "taquin/taquinlaw27.PatternBounds", spec := "patternBounds", unfollowed := true, recurses := true, apart := false, narrowed := true }
def PatternBoundsUptoSaid : Prop := patternBoundsUptoRow.holds Try.pinned (OpenSpec.upto patternBoundsSpec)

/-- 'taquinlaw28.RelocateTrips', WHERE WHAT IT READS IS OF BULK AT MOST 1048576: true; the input reads as it did. -/
def relocateTripsUptoRow : OpenClaim := { program := "ytogmjilaiopjmaa", sum := "aa4fd42547ca36a583bbb08160d0d959b30295ed4d4814697bcf710e2a2ef50e", func := "taquin/taquinlaw28.RelocateTrips", spec := "relocateTrips", inPlace := ["slices.overlaps[taquin/relocate.node]"], unfollowed := true, recurses := true, apart := false, narrowed := true }
def RelocateTripsUptoSaid : Prop := relocateTripsUptoRow.holds Try.pinned (OpenSpec.upto relocateTripsSpec)

end Rows
end Go.Proofs.Ytogmjilaiopjmaa
