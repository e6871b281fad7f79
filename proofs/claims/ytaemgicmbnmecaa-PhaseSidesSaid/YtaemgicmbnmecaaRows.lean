/-
  No cell of these rows narrows 'for every input' (looked for: loops, veiled, ifaces, maps, wideKeys, modest, calm, conditions, laid).
  DERIVED. THE GIVEN ROWS OF THIS SEAT. 10 by the template 'for every input the law returns true; each argument reads behind the call as it read before'; 0 by the template 'total and deterministic' (their statements: YtaemgicmbnmecaaTotals.lean).
  GIVEN WITH THE SEED: the statements are not yours to turn. If you find one false, say at which input.
  Laid BY PROGRAM, IN A SANDBOX (cutbox-rows.mjs): the forced cells as the released guide's own fill.sh prints them over the translation d8ed095cc8f14435… (all of the seat's roots in one cut). By AI agents, Wed Nov 11 2026. No macro, syntax, notation, axiom, sorry.
-/
import Derived.Test.YtaemgicmbnmecaaChecked
import GoSem.Claim
import GoSem.ClaimJoined
import GoSem.ClaimMapViews
import Derived.JoinedTies
import Derived.KernelRfl
namespace Go.Proofs.Ytaemgicmbnmecaa
/- THE CELL 'sum', in the pinned program and in every row, IS THE sha256 OF THE DUMP (.gsa) THAT YtaemgicmbnmecaaProg.lean LOADS. Nothing in Lean hashes anything: it is a label: what it is worth is what the hold of that sum in a sandbox is worth. -/
noncomputable def Try.pinned : Pinned := { name := "ytaemgicmbnmecaa", sum := "d8ed095cc8f1443566810175ac4281eb888b6af1b350af6b19b9bffa9b69408a", checked := Try.checked }
namespace Rows
def none {H : Type} : Left H := { results := [], args := [] }

/-- 'rampartlaw10.FlagsClass': WHATEVER THE INPUT: true; the input reads as it did. -/
def flagsClassSpec : ChangeSpec := { name := "flagsClass", fn := fun _ => fun
  | [d] => { results := [.lit (.bool true)], args := [d] }
  | _ => none }
def flagsClassRow : OpenClaim := { program := "ytaemgicmbnmecaa", sum := "d8ed095cc8f1443566810175ac4281eb888b6af1b350af6b19b9bffa9b69408a", func := "rampart/rampartlaw10.FlagsClass", spec := "flagsClass", apart := false }
def FlagsClassSaid : Prop := flagsClassRow.holds Try.pinned (OpenSpec.ofChange flagsClassSpec)

/-- ITS FALSE NEIGHBOUR: 'it returns false'. Refute it at one input. -/
def flagsClassWrong : ChangeSpec := { name := "flagsClass", fn := fun _ => fun
  | [d] => { results := [.lit (.bool false)], args := [d] }
  | _ => none }
def FlagsClassWrongFalsely : Prop := flagsClassRow.holds Try.pinned (OpenSpec.ofChange flagsClassWrong)

/-- 'rampartlaw10.FlagsText': WHATEVER THE INPUT: true; the input reads as it did. -/
def flagsTextSpec : ChangeSpec := { name := "flagsText", fn := fun _ => fun
  | [d1, d2] => { results := [.lit (.bool true)], args := [d1, d2] }
  | _ => none }
def flagsTextRow : OpenClaim := { program := "ytaemgicmbnmecaa", sum := "d8ed095cc8f1443566810175ac4281eb888b6af1b350af6b19b9bffa9b69408a", func := "rampart/rampartlaw10.FlagsText", spec := "flagsText", apart := false }
def FlagsTextSaid : Prop := flagsTextRow.holds Try.pinned (OpenSpec.ofChange flagsTextSpec)

/-- ITS FALSE NEIGHBOUR: 'it returns false'. Refute it at one input. -/
def flagsTextWrong : ChangeSpec := { name := "flagsText", fn := fun _ => fun
  | [d1, d2] => { results := [.lit (.bool false)], args := [d1, d2] }
  | _ => none }
def FlagsTextWrongFalsely : Prop := flagsTextRow.holds Try.pinned (OpenSpec.ofChange flagsTextWrong)

/-- 'rampartlaw10.FlagsBack': WHATEVER THE INPUT: true; the input reads as it did. -/
def flagsBackSpec : ChangeSpec := { name := "flagsBack", fn := fun _ => fun
  | [d1, d2] => { results := [.lit (.bool true)], args := [d1, d2] }
  | _ => none }
def flagsBackRow : OpenClaim := { program := "ytaemgicmbnmecaa", sum := "d8ed095cc8f1443566810175ac4281eb888b6af1b350af6b19b9bffa9b69408a", func := "rampart/rampartlaw10.FlagsBack", spec := "flagsBack", apart := false }
def FlagsBackSaid : Prop := flagsBackRow.holds Try.pinned (OpenSpec.ofChange flagsBackSpec)

/-- ITS FALSE NEIGHBOUR: 'it returns false'. Refute it at one input. -/
def flagsBackWrong : ChangeSpec := { name := "flagsBack", fn := fun _ => fun
  | [d1, d2] => { results := [.lit (.bool false)], args := [d1, d2] }
  | _ => none }
def FlagsBackWrongFalsely : Prop := flagsBackRow.holds Try.pinned (OpenSpec.ofChange flagsBackWrong)

/-- 'rampartlaw10.FlagsPush': WHATEVER THE INPUT: true; the input reads as it did. -/
def flagsPushSpec : ChangeSpec := { name := "flagsPush", fn := fun _ => fun
  | [d] => { results := [.lit (.bool true)], args := [d] }
  | _ => none }
def flagsPushRow : OpenClaim := { program := "ytaemgicmbnmecaa", sum := "d8ed095cc8f1443566810175ac4281eb888b6af1b350af6b19b9bffa9b69408a", func := "rampart/rampartlaw10.FlagsPush", spec := "flagsPush", apart := false }
def FlagsPushSaid : Prop := flagsPushRow.holds Try.pinned (OpenSpec.ofChange flagsPushSpec)

/-- ITS FALSE NEIGHBOUR: 'it returns false'. Refute it at one input. -/
def flagsPushWrong : ChangeSpec := { name := "flagsPush", fn := fun _ => fun
  | [d] => { results := [.lit (.bool false)], args := [d] }
  | _ => none }
def FlagsPushWrongFalsely : Prop := flagsPushRow.holds Try.pinned (OpenSpec.ofChange flagsPushWrong)

/-- 'rampartlaw10.FlagsLetters': WHATEVER THE INPUT: true; the input reads as it did. -/
def flagsLettersSpec : ChangeSpec := { name := "flagsLetters", fn := fun _ => fun
  | [d1, d2] => { results := [.lit (.bool true)], args := [d1, d2] }
  | _ => none }
def flagsLettersRow : OpenClaim := { program := "ytaemgicmbnmecaa", sum := "d8ed095cc8f1443566810175ac4281eb888b6af1b350af6b19b9bffa9b69408a", func := "rampart/rampartlaw10.FlagsLetters", spec := "flagsLetters", apart := false }
def FlagsLettersSaid : Prop := flagsLettersRow.holds Try.pinned (OpenSpec.ofChange flagsLettersSpec)

/-- ITS FALSE NEIGHBOUR: 'it returns false'. Refute it at one input. -/
def flagsLettersWrong : ChangeSpec := { name := "flagsLetters", fn := fun _ => fun
  | [d1, d2] => { results := [.lit (.bool false)], args := [d1, d2] }
  | _ => none }
def FlagsLettersWrongFalsely : Prop := flagsLettersRow.holds Try.pinned (OpenSpec.ofChange flagsLettersWrong)

/-- 'rampartlaw19.PhaseTells': WHATEVER THE INPUT: true; the input reads as it did. -/
def phaseTellsSpec : ChangeSpec := { name := "phaseTells", fn := fun _ => fun
  | [d1, d2, d3] => { results := [.lit (.bool true)], args := [d1, d2, d3] }
  | _ => none }
def phaseTellsRow : OpenClaim := { program := "ytaemgicmbnmecaa", sum := "d8ed095cc8f1443566810175ac4281eb888b6af1b350af6b19b9bffa9b69408a", func := "rampart/rampartlaw19.PhaseTells", spec := "phaseTells", apart := false }
def PhaseTellsSaid : Prop := phaseTellsRow.holds Try.pinned (OpenSpec.ofChange phaseTellsSpec)

/-- ITS FALSE NEIGHBOUR: 'it returns false'. Refute it at one input. -/
def phaseTellsWrong : ChangeSpec := { name := "phaseTells", fn := fun _ => fun
  | [d1, d2, d3] => { results := [.lit (.bool false)], args := [d1, d2, d3] }
  | _ => none }
def PhaseTellsWrongFalsely : Prop := phaseTellsRow.holds Try.pinned (OpenSpec.ofChange phaseTellsWrong)

/-- 'rampartlaw19.PhaseNames': WHATEVER THE INPUT: true; the input reads as it did. -/
def phaseNamesSpec : ChangeSpec := { name := "phaseNames", fn := fun _ => fun
  | [d1, d2] => { results := [.lit (.bool true)], args := [d1, d2] }
  | _ => none }
def phaseNamesRow : OpenClaim := { program := "ytaemgicmbnmecaa", sum := "d8ed095cc8f1443566810175ac4281eb888b6af1b350af6b19b9bffa9b69408a", func := "rampart/rampartlaw19.PhaseNames", spec := "phaseNames", apart := false }
def PhaseNamesSaid : Prop := phaseNamesRow.holds Try.pinned (OpenSpec.ofChange phaseNamesSpec)

/-- ITS FALSE NEIGHBOUR: 'it returns false'. Refute it at one input. -/
def phaseNamesWrong : ChangeSpec := { name := "phaseNames", fn := fun _ => fun
  | [d1, d2] => { results := [.lit (.bool false)], args := [d1, d2] }
  | _ => none }
def PhaseNamesWrongFalsely : Prop := phaseNamesRow.holds Try.pinned (OpenSpec.ofChange phaseNamesWrong)

/-- 'rampartlaw19.PhaseRises': WHATEVER THE INPUT: true; the input reads as it did. -/
def phaseRisesSpec : ChangeSpec := { name := "phaseRises", fn := fun _ => fun
  | [d] => { results := [.lit (.bool true)], args := [d] }
  | _ => none }
def phaseRisesRow : OpenClaim := { program := "ytaemgicmbnmecaa", sum := "d8ed095cc8f1443566810175ac4281eb888b6af1b350af6b19b9bffa9b69408a", func := "rampart/rampartlaw19.PhaseRises", spec := "phaseRises", apart := false }
def PhaseRisesSaid : Prop := phaseRisesRow.holds Try.pinned (OpenSpec.ofChange phaseRisesSpec)

/-- ITS FALSE NEIGHBOUR: 'it returns false'. Refute it at one input. -/
def phaseRisesWrong : ChangeSpec := { name := "phaseRises", fn := fun _ => fun
  | [d] => { results := [.lit (.bool false)], args := [d] }
  | _ => none }
def PhaseRisesWrongFalsely : Prop := phaseRisesRow.holds Try.pinned (OpenSpec.ofChange phaseRisesWrong)

/-- 'rampartlaw19.PhaseTwice': WHATEVER THE INPUT: true; the input reads as it did. -/
def phaseTwiceSpec : ChangeSpec := { name := "phaseTwice", fn := fun _ => fun
  | [d1, d2, d3] => { results := [.lit (.bool true)], args := [d1, d2, d3] }
  | _ => none }
def phaseTwiceRow : OpenClaim := { program := "ytaemgicmbnmecaa", sum := "d8ed095cc8f1443566810175ac4281eb888b6af1b350af6b19b9bffa9b69408a", func := "rampart/rampartlaw19.PhaseTwice", spec := "phaseTwice", apart := false }
def PhaseTwiceSaid : Prop := phaseTwiceRow.holds Try.pinned (OpenSpec.ofChange phaseTwiceSpec)

/-- ITS FALSE NEIGHBOUR: 'it returns false'. Refute it at one input. -/
def phaseTwiceWrong : ChangeSpec := { name := "phaseTwice", fn := fun _ => fun
  | [d1, d2, d3] => { results := [.lit (.bool false)], args := [d1, d2, d3] }
  | _ => none }
def PhaseTwiceWrongFalsely : Prop := phaseTwiceRow.holds Try.pinned (OpenSpec.ofChange phaseTwiceWrong)

/-- 'rampartlaw19.PhaseSides': WHATEVER THE INPUT: true; the input reads as it did. -/
def phaseSidesSpec : ChangeSpec := { name := "phaseSides", fn := fun _ => fun
  | [d] => { results := [.lit (.bool true)], args := [d] }
  | _ => none }
def phaseSidesRow : OpenClaim := { program := "ytaemgicmbnmecaa", sum := "d8ed095cc8f1443566810175ac4281eb888b6af1b350af6b19b9bffa9b69408a", func := "rampart/rampartlaw19.PhaseSides", spec := "phaseSides", apart := false }
def PhaseSidesSaid : Prop := phaseSidesRow.holds Try.pinned (OpenSpec.ofChange phaseSidesSpec)

/-- ITS FALSE NEIGHBOUR: 'it returns false'. Refute it at one input. -/
def phaseSidesWrong : ChangeSpec := { name := "phaseSides", fn := fun _ => fun
  | [d] => { results := [.lit (.bool false)], args := [d] }
  | _ => none }
def PhaseSidesWrongFalsely : Prop := phaseSidesRow.holds Try.pinned (OpenSpec.ofChange phaseSidesWrong)

/- THE SECOND FORM. 'bulk': how many values and letters a reading holds, each counted each time it is reached (what is shared counts as often as it is met; a slice's spare places count too). A statement '..UptoSaid' is the law's where the arguments, and the package variables that the reading takes, are together of bulk at most 1048576: NARROWER than '..Said'. Prove '..Said' where nothing that the law and all that it calls make is longer than what came in: it says more and counts as full. Else prove '..UptoSaid'. A law counts once. -/
mutual
def uptoBulk {H : Type} : DataW H → Nat
  | .lit (.string bytes) => bytes.length + 1
  | .lit _ => 1
  | .nil => 1
  | .ptr d => uptoBulk d + 1
  | .slice elems spare => uptoBulkAll elems + uptoBulkAll spare + 1
  | .agg parts => uptoBulkAll parts + 1
  | .iface _ d => uptoBulk d + 1
  | .map entries => uptoBulkEntries entries + 1
  | .held _ => 1
def uptoBulkAll {H : Type} : List (DataW H) → Nat
  | [] => 0
  | d :: r => uptoBulk d + uptoBulkAll r
def uptoBulkEntries {H : Type} : List (Lit × DataW H) → Nat
  | [] => 0
  | x :: r => uptoBulkEntry x + uptoBulkEntries r
def uptoBulkEntry {H : Type} : Lit × DataW H → Nat
  | (.string bytes, d) => bytes.length + uptoBulk d + 1
  | (_, d) => uptoBulk d + 1
 end
def uptoSmall : (H : Type) → List (DataW H) → Bool := fun _ ds => decide (uptoBulkAll ds ≤ 1048576)
def OpenSpec.upto (s : _root_.Go.ChangeSpec) : _root_.Go.OpenSpec := { _root_.Go.OpenSpec.ofChange s with cond := some uptoSmall }

/-- 'rampartlaw10.FlagsClass', WHERE WHAT IT READS IS OF BULK AT MOST 1048576: true; the input reads as it did. -/
def flagsClassUptoRow : OpenClaim := { program := "ytaemgicmbnmecaa", sum := "d8ed095cc8f1443566810175ac4281eb888b6af1b350af6b19b9bffa9b69408a", func := "rampart/rampartlaw10.FlagsClass", spec := "flagsClass", apart := false, narrowed := true }
def FlagsClassUptoSaid : Prop := flagsClassUptoRow.holds Try.pinned (OpenSpec.upto flagsClassSpec)

/-- 'rampartlaw10.FlagsText', WHERE WHAT IT READS IS OF BULK AT MOST 1048576: true; the input reads as it did. -/
def flagsTextUptoRow : OpenClaim := { program := "ytaemgicmbnmecaa", sum := "d8ed095cc8f1443566810175ac4281eb888b6af1b350af6b19b9bffa9b69408a", func := "rampart/rampartlaw10.FlagsText", spec := "flagsText", apart := false, narrowed := true }
def FlagsTextUptoSaid : Prop := flagsTextUptoRow.holds Try.pinned (OpenSpec.upto flagsTextSpec)

/-- 'rampartlaw10.FlagsBack', WHERE WHAT IT READS IS OF BULK AT MOST 1048576: true; the input reads as it did. -/
def flagsBackUptoRow : OpenClaim := { program := "ytaemgicmbnmecaa", sum := "d8ed095cc8f1443566810175ac4281eb888b6af1b350af6b19b9bffa9b69408a", func := "rampart/rampartlaw10.FlagsBack", spec := "flagsBack", apart := false, narrowed := true }
def FlagsBackUptoSaid : Prop := flagsBackUptoRow.holds Try.pinned (OpenSpec.upto flagsBackSpec)

/-- 'rampartlaw10.FlagsPush', WHERE WHAT IT READS IS OF BULK AT MOST 1048576: true; the input reads as it did. -/
def flagsPushUptoRow : OpenClaim := { program := "ytaemgicmbnmecaa", sum := "d8ed095cc8f1443566810175ac4281eb888b6af1b350af6b19b9bffa9b69408a", func := "rampart/rampartlaw10.FlagsPush", spec := "flagsPush", apart := false, narrowed := true }
def FlagsPushUptoSaid : Prop := flagsPushUptoRow.holds Try.pinned (OpenSpec.upto flagsPushSpec)

/-- 'rampartlaw10.FlagsLetters', WHERE WHAT IT READS IS OF BULK AT MOST 1048576: true; the input reads as it did. -/
def flagsLettersUptoRow : OpenClaim := { program := "ytaemgicmbnmecaa", sum := "d8ed095cc8f1443566810175ac4281eb888b6af1b350af6b19b9bffa9b69408a", func := "rampart/rampartlaw10.FlagsLetters", spec := "flagsLetters", apart := false, narrowed := true }
def FlagsLettersUptoSaid : Prop := flagsLettersUptoRow.holds Try.pinned (OpenSpec.upto flagsLettersSpec)

/-- 'rampartlaw19.PhaseTells', WHERE WHAT IT READS IS OF BULK AT MOST 1048576: true; the input reads as it did. -/
def phaseTellsUptoRow : OpenClaim := { program := "ytaemgicmbnmecaa", sum := "d8ed095cc8f1443566810175ac4281eb888b6af1b350af6b19b9bffa9b69408a", func := "rampart/rampartlaw19.PhaseTells", spec := "phaseTells", apart := false, narrowed := true }
def PhaseTellsUptoSaid : Prop := phaseTellsUptoRow.holds Try.pinned (OpenSpec.upto phaseTellsSpec)

/-- 'rampartlaw19.PhaseNames', WHERE WHAT IT READS IS OF BULK AT MOST 1048576: true; the input reads as it did. -/
def phaseNamesUptoRow : OpenClaim := { program := "ytaemgicmbnmecaa", sum := "d8ed095cc8f1443566810175ac4281eb888b6af1b350af6b19b9bffa9b69408a", func := "rampart/rampartlaw19.PhaseNames", spec := "phaseNames", apart := false, narrowed := true }
def PhaseNamesUptoSaid : Prop := phaseNamesUptoRow.holds Try.pinned (OpenSpec.upto phaseNamesSpec)

/-- 'rampartlaw19.PhaseRises', WHERE WHAT IT READS IS OF BULK AT MOST 1048576: true; the input reads as it did. -/
def phaseRisesUptoRow : OpenClaim := { program := "ytaemgicmbnmecaa", sum := "d8ed095cc8f1443566810175ac4281eb888b6af1b350af6b19b9bffa9b69408a", func := "rampart/rampartlaw19.PhaseRises", spec := "phaseRises", apart := false, narrowed := true }
def PhaseRisesUptoSaid : Prop := phaseRisesUptoRow.holds Try.pinned (OpenSpec.upto phaseRisesSpec)

/-- 'rampartlaw19.PhaseTwice', WHERE WHAT IT READS IS OF BULK AT MOST 1048576: true; the input reads as it did. -/
def phaseTwiceUptoRow : OpenClaim := { program := "ytaemgicmbnmecaa", sum := "d8ed095cc8f1443566810175ac4281eb888b6af1b350af6b19b9bffa9b69408a", func := "rampart/rampartlaw19.PhaseTwice", spec := "phaseTwice", apart := false, narrowed := true }
def PhaseTwiceUptoSaid : Prop := phaseTwiceUptoRow.holds Try.pinned (OpenSpec.upto phaseTwiceSpec)

/-- 'rampartlaw19.PhaseSides', WHERE WHAT IT READS IS OF BULK AT MOST 1048576: true; the input reads as it did. -/
def phaseSidesUptoRow : OpenClaim := { program := "ytaemgicmbnmecaa", sum := "d8ed095cc8f1443566810175ac4281eb888b6af1b350af6b19b9bffa9b69408a", func := "rampart/rampartlaw19.PhaseSides", spec := "phaseSides", apart := false, narrowed := true }
def PhaseSidesUptoSaid : Prop := phaseSidesUptoRow.holds Try.pinned (OpenSpec.upto phaseSidesSpec)

end Rows
end Go.Proofs.Ytaemgicmbnmecaa
