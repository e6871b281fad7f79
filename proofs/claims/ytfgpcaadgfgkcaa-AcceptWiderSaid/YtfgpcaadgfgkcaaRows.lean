/-
  No cell of these rows narrows 'for every input' (looked for: loops, veiled, ifaces, maps, wideKeys, modest, calm, conditions, laid).
  DERIVED. THE GIVEN ROWS OF THIS SEAT. 9 by the template 'for every input the law returns true; each argument reads behind the call as it read before'; 0 by the template 'total and deterministic' (their statements: YtfgpcaadgfgkcaaTotals.lean).
  GIVEN WITH THE SEED: the statements are not yours to turn. If you find one false, say at which input.
  Laid BY PROGRAM, IN A SANDBOX (cutbox-rows.mjs): the forced cells as the released guide's own fill.sh prints them over the translation 225dfb3f64ed21c3… (all of the seat's roots in one cut). By AI agents, Wed Nov 11 2026. No macro, syntax, notation, axiom, sorry.
-/
import Derived.Test.YtfgpcaadgfgkcaaChecked
import GoSem.Claim
import GoSem.ClaimJoined
import GoSem.ClaimMapViews
import Derived.JoinedTies
import Derived.KernelRfl
namespace Go.Proofs.Ytfgpcaadgfgkcaa
/- THE CELL 'sum', in the pinned program and in every row, IS THE sha256 OF THE DUMP (.gsa) THAT YtfgpcaadgfgkcaaProg.lean LOADS. Nothing in Lean hashes anything: it is a label: what it is worth is what the hold of that sum in a sandbox is worth. -/
noncomputable def Try.pinned : Pinned := { name := "ytfgpcaadgfgkcaa", sum := "225dfb3f64ed21c37a73daa583a4d879f27af78602a84752350cda72aa95fc17", checked := Try.checked }
namespace Rows
def none {H : Type} : Left H := { results := [], args := [] }

/-- 'rampartlaw18.AcceptTells': WHATEVER THE INPUT: true; the input reads as it did. -/
def acceptTellsSpec : ChangeSpec := { name := "acceptTells", fn := fun _ => fun
  | [d1, d2, d3] => { results := [.lit (.bool true)], args := [d1, d2, d3] }
  | _ => none }
def acceptTellsRow : OpenClaim := { program := "ytfgpcaadgfgkcaa", sum := "225dfb3f64ed21c37a73daa583a4d879f27af78602a84752350cda72aa95fc17", func := "rampart/rampartlaw18.AcceptTells", spec := "acceptTells", unfollowed := true, recurses := true, apart := false }
def AcceptTellsSaid : Prop := acceptTellsRow.holds Try.pinned (OpenSpec.ofChange acceptTellsSpec)

/-- ITS FALSE NEIGHBOUR: 'it returns false'. Refute it at one input. -/
def acceptTellsWrong : ChangeSpec := { name := "acceptTells", fn := fun _ => fun
  | [d1, d2, d3] => { results := [.lit (.bool false)], args := [d1, d2, d3] }
  | _ => none }
def AcceptTellsWrongFalsely : Prop := acceptTellsRow.holds Try.pinned (OpenSpec.ofChange acceptTellsWrong)

/-- 'rampartlaw18.AcceptShift': WHATEVER THE INPUT: true; the input reads as it did. -/
def acceptShiftSpec : ChangeSpec := { name := "acceptShift", fn := fun _ => fun
  | [d1, d2, d3] => { results := [.lit (.bool true)], args := [d1, d2, d3] }
  | _ => none }
def acceptShiftRow : OpenClaim := { program := "ytfgpcaadgfgkcaa", sum := "225dfb3f64ed21c37a73daa583a4d879f27af78602a84752350cda72aa95fc17", func := "rampart/rampartlaw18.AcceptShift", spec := "acceptShift", unfollowed := true, recurses := true, apart := false }
def AcceptShiftSaid : Prop := acceptShiftRow.holds Try.pinned (OpenSpec.ofChange acceptShiftSpec)

/-- ITS FALSE NEIGHBOUR: 'it returns false'. Refute it at one input. -/
def acceptShiftWrong : ChangeSpec := { name := "acceptShift", fn := fun _ => fun
  | [d1, d2, d3] => { results := [.lit (.bool false)], args := [d1, d2, d3] }
  | _ => none }
def AcceptShiftWrongFalsely : Prop := acceptShiftRow.holds Try.pinned (OpenSpec.ofChange acceptShiftWrong)

/-- 'rampartlaw18.AcceptWider': WHATEVER THE INPUT: true; the input reads as it did. -/
def acceptWiderSpec : ChangeSpec := { name := "acceptWider", fn := fun _ => fun
  | [d1, d2, d3] => { results := [.lit (.bool true)], args := [d1, d2, d3] }
  | _ => none }
def acceptWiderRow : OpenClaim := { program := "ytfgpcaadgfgkcaa", sum := "225dfb3f64ed21c37a73daa583a4d879f27af78602a84752350cda72aa95fc17", func := "rampart/rampartlaw18.AcceptWider", spec := "acceptWider", unfollowed := true, recurses := true, apart := false }
def AcceptWiderSaid : Prop := acceptWiderRow.holds Try.pinned (OpenSpec.ofChange acceptWiderSpec)

/-- ITS FALSE NEIGHBOUR: 'it returns false'. Refute it at one input. -/
def acceptWiderWrong : ChangeSpec := { name := "acceptWider", fn := fun _ => fun
  | [d1, d2, d3] => { results := [.lit (.bool false)], args := [d1, d2, d3] }
  | _ => none }
def AcceptWiderWrongFalsely : Prop := acceptWiderRow.holds Try.pinned (OpenSpec.ofChange acceptWiderWrong)

/-- 'rampartlaw17.WindowTells': WHATEVER THE INPUT: true; the input reads as it did. -/
def windowTellsSpec : ChangeSpec := { name := "windowTells", fn := fun _ => fun
  | [d1, d2, d3] => { results := [.lit (.bool true)], args := [d1, d2, d3] }
  | _ => none }
def windowTellsRow : OpenClaim := { program := "ytfgpcaadgfgkcaa", sum := "225dfb3f64ed21c37a73daa583a4d879f27af78602a84752350cda72aa95fc17", func := "rampart/rampartlaw17.WindowTells", spec := "windowTells", unfollowed := true, recurses := true, apart := false }
def WindowTellsSaid : Prop := windowTellsRow.holds Try.pinned (OpenSpec.ofChange windowTellsSpec)

/-- ITS FALSE NEIGHBOUR: 'it returns false'. Refute it at one input. -/
def windowTellsWrong : ChangeSpec := { name := "windowTells", fn := fun _ => fun
  | [d1, d2, d3] => { results := [.lit (.bool false)], args := [d1, d2, d3] }
  | _ => none }
def WindowTellsWrongFalsely : Prop := windowTellsRow.holds Try.pinned (OpenSpec.ofChange windowTellsWrong)

/-- 'rampartlaw17.WindowRises': WHATEVER THE INPUT: true; the input reads as it did. -/
def windowRisesSpec : ChangeSpec := { name := "windowRises", fn := fun _ => fun
  | [d1, d2, d3] => { results := [.lit (.bool true)], args := [d1, d2, d3] }
  | _ => none }
def windowRisesRow : OpenClaim := { program := "ytfgpcaadgfgkcaa", sum := "225dfb3f64ed21c37a73daa583a4d879f27af78602a84752350cda72aa95fc17", func := "rampart/rampartlaw17.WindowRises", spec := "windowRises", unfollowed := true, recurses := true, apart := false }
def WindowRisesSaid : Prop := windowRisesRow.holds Try.pinned (OpenSpec.ofChange windowRisesSpec)

/-- ITS FALSE NEIGHBOUR: 'it returns false'. Refute it at one input. -/
def windowRisesWrong : ChangeSpec := { name := "windowRises", fn := fun _ => fun
  | [d1, d2, d3] => { results := [.lit (.bool false)], args := [d1, d2, d3] }
  | _ => none }
def WindowRisesWrongFalsely : Prop := windowRisesRow.holds Try.pinned (OpenSpec.ofChange windowRisesWrong)

/-- 'rampartlaw17.WindowTwice': WHATEVER THE INPUT: true; the input reads as it did. -/
def windowTwiceSpec : ChangeSpec := { name := "windowTwice", fn := fun _ => fun
  | [d1, d2, d3] => { results := [.lit (.bool true)], args := [d1, d2, d3] }
  | _ => none }
def windowTwiceRow : OpenClaim := { program := "ytfgpcaadgfgkcaa", sum := "225dfb3f64ed21c37a73daa583a4d879f27af78602a84752350cda72aa95fc17", func := "rampart/rampartlaw17.WindowTwice", spec := "windowTwice", unfollowed := true, recurses := true, apart := false }
def WindowTwiceSaid : Prop := windowTwiceRow.holds Try.pinned (OpenSpec.ofChange windowTwiceSpec)

/-- ITS FALSE NEIGHBOUR: 'it returns false'. Refute it at one input. -/
def windowTwiceWrong : ChangeSpec := { name := "windowTwice", fn := fun _ => fun
  | [d1, d2, d3] => { results := [.lit (.bool false)], args := [d1, d2, d3] }
  | _ => none }
def WindowTwiceWrongFalsely : Prop := windowTwiceRow.holds Try.pinned (OpenSpec.ofChange windowTwiceWrong)

/-- 'rampartlaw17.WindowBegins': WHATEVER THE INPUT: true; the input reads as it did. -/
def windowBeginsSpec : ChangeSpec := { name := "windowBegins", fn := fun _ => fun
  | [d1, d2, d3] => { results := [.lit (.bool true)], args := [d1, d2, d3] }
  | _ => none }
def windowBeginsRow : OpenClaim := { program := "ytfgpcaadgfgkcaa", sum := "225dfb3f64ed21c37a73daa583a4d879f27af78602a84752350cda72aa95fc17", func := "rampart/rampartlaw17.WindowBegins", spec := "windowBegins", unfollowed := true, recurses := true, apart := false }
def WindowBeginsSaid : Prop := windowBeginsRow.holds Try.pinned (OpenSpec.ofChange windowBeginsSpec)

/-- ITS FALSE NEIGHBOUR: 'it returns false'. Refute it at one input. -/
def windowBeginsWrong : ChangeSpec := { name := "windowBegins", fn := fun _ => fun
  | [d1, d2, d3] => { results := [.lit (.bool false)], args := [d1, d2, d3] }
  | _ => none }
def WindowBeginsWrongFalsely : Prop := windowBeginsRow.holds Try.pinned (OpenSpec.ofChange windowBeginsWrong)

/-- 'rampartlaw17.WindowShift': WHATEVER THE INPUT: true; the input reads as it did. -/
def windowShiftSpec : ChangeSpec := { name := "windowShift", fn := fun _ => fun
  | [d1, d2, d3] => { results := [.lit (.bool true)], args := [d1, d2, d3] }
  | _ => none }
def windowShiftRow : OpenClaim := { program := "ytfgpcaadgfgkcaa", sum := "225dfb3f64ed21c37a73daa583a4d879f27af78602a84752350cda72aa95fc17", func := "rampart/rampartlaw17.WindowShift", spec := "windowShift", unfollowed := true, recurses := true, apart := false }
def WindowShiftSaid : Prop := windowShiftRow.holds Try.pinned (OpenSpec.ofChange windowShiftSpec)

/-- ITS FALSE NEIGHBOUR: 'it returns false'. Refute it at one input. -/
def windowShiftWrong : ChangeSpec := { name := "windowShift", fn := fun _ => fun
  | [d1, d2, d3] => { results := [.lit (.bool false)], args := [d1, d2, d3] }
  | _ => none }
def WindowShiftWrongFalsely : Prop := windowShiftRow.holds Try.pinned (OpenSpec.ofChange windowShiftWrong)

/-- 'rampartlaw18.AcceptAgain': WHATEVER THE INPUT: true; the input reads as it did. -/
def acceptAgainSpec : ChangeSpec := { name := "acceptAgain", fn := fun _ => fun
  | [d1, d2, d3] => { results := [.lit (.bool true)], args := [d1, d2, d3] }
  | _ => none }
def acceptAgainRow : OpenClaim := { program := "ytfgpcaadgfgkcaa", sum := "225dfb3f64ed21c37a73daa583a4d879f27af78602a84752350cda72aa95fc17", func := "rampart/rampartlaw18.AcceptAgain", spec := "acceptAgain", unfollowed := true, recurses := true, apart := false }
def AcceptAgainSaid : Prop := acceptAgainRow.holds Try.pinned (OpenSpec.ofChange acceptAgainSpec)

/-- ITS FALSE NEIGHBOUR: 'it returns false'. Refute it at one input. -/
def acceptAgainWrong : ChangeSpec := { name := "acceptAgain", fn := fun _ => fun
  | [d1, d2, d3] => { results := [.lit (.bool false)], args := [d1, d2, d3] }
  | _ => none }
def AcceptAgainWrongFalsely : Prop := acceptAgainRow.holds Try.pinned (OpenSpec.ofChange acceptAgainWrong)

/- THE SECOND FORM. 'bulk': how many values and letters a reading holds, each counted each time it is reached (what is shared counts as often as it is met; a slice's spare places count too). A statement '..UptoSaid' is the law's where the arguments, and the package variables that the reading takes, are together of bulk at most 1048576: NARROWER than '..Said'. Prove '..Said' where nothing that the law and all that it calls make is longer than what came in: it says more and counts as full. Else prove '..UptoSaid'. A law counts once. -/
mutual
def uptoBulk {H : Type} : DataW H → Nat
  | .lit (.string bytes) => bytes.length + 1
  | .lit _ => 1
  | .nil => 1
  | .ptr d => uptoBulk d + 1
  | .slice elems spare => uptoBulkAll elems + uptoBulkAll spare + 1
  | .agg parts => uptoBulkAll parts + 1
  | .iface _ d => uptoBulk d + 1
  | .map entries => uptoBulkEntries entries + 1
  | .held _ => 1
def uptoBulkAll {H : Type} : List (DataW H) → Nat
  | [] => 0
  | d :: r => uptoBulk d + uptoBulkAll r
def uptoBulkEntries {H : Type} : List (Lit × DataW H) → Nat
  | [] => 0
  | x :: r => uptoBulkEntry x + uptoBulkEntries r
def uptoBulkEntry {H : Type} : Lit × DataW H → Nat
  | (.string bytes, d) => bytes.length + uptoBulk d + 1
  | (_, d) => uptoBulk d + 1
 end
def uptoSmall : (H : Type) → List (DataW H) → Bool := fun _ ds => decide (uptoBulkAll ds ≤ 1048576)
def OpenSpec.upto (s : _root_.Go.ChangeSpec) : _root_.Go.OpenSpec := { _root_.Go.OpenSpec.ofChange s with cond := some uptoSmall }

/-- 'rampartlaw18.AcceptTells', WHERE WHAT IT READS IS OF BULK AT MOST 1048576: true; the input reads as it did. -/
def acceptTellsUptoRow : OpenClaim := { program := "ytfgpcaadgfgkcaa", sum := "225dfb3f64ed21c37a73daa583a4d879f27af78602a84752350cda72aa95fc17", func := "rampart/rampartlaw18.AcceptTells", spec := "acceptTells", unfollowed := true, recurses := true, apart := false, narrowed := true }
def AcceptTellsUptoSaid : Prop := acceptTellsUptoRow.holds Try.pinned (OpenSpec.upto acceptTellsSpec)

/-- 'rampartlaw18.AcceptShift', WHERE WHAT IT READS IS OF BULK AT MOST 1048576: true; the input reads as it did. -/
def acceptShiftUptoRow : OpenClaim := { program := "ytfgpcaadgfgkcaa", sum := "225dfb3f64ed21c37a73daa583a4d879f27af78602a84752350cda72aa95fc17", func := "rampart/rampartlaw18.AcceptShift", spec := "acceptShift", unfollowed := true, recurses := true, apart := false, narrowed := true }
def AcceptShiftUptoSaid : Prop := acceptShiftUptoRow.holds Try.pinned (OpenSpec.upto acceptShiftSpec)

/-- 'rampartlaw18.AcceptWider', WHERE WHAT IT READS IS OF BULK AT MOST 1048576: true; the input reads as it did. -/
def acceptWiderUptoRow : OpenClaim := { program := "ytfgpcaadgfgkcaa", sum := "225dfb3f64ed21c37a73daa583a4d879f27af78602a84752350cda72aa95fc17", func := "rampart/rampartlaw18.AcceptWider", spec := "acceptWider", unfollowed := true, recurses := true, apart := false, narrowed := true }
def AcceptWiderUptoSaid : Prop := acceptWiderUptoRow.holds Try.pinned (OpenSpec.upto acceptWiderSpec)

/-- 'rampartlaw17.WindowTells', WHERE WHAT IT READS IS OF BULK AT MOST 1048576: true; the input reads as it did. -/
def windowTellsUptoRow : OpenClaim := { program := "ytfgpcaadgfgkcaa", sum := "225dfb3f64ed21c37a73daa583a4d879f27af78602a84752350cda72aa95fc17", func := "rampart/rampartlaw17.WindowTells", spec := "windowTells", unfollowed := true, recurses := true, apart := false, narrowed := true }
def WindowTellsUptoSaid : Prop := windowTellsUptoRow.holds Try.pinned (OpenSpec.upto windowTellsSpec)

/-- 'rampartlaw17.WindowRises', WHERE WHAT IT READS IS OF BULK AT MOST 1048576: true; the input reads as it did. -/
def windowRisesUptoRow : OpenClaim := { program := "ytfgpcaadgfgkcaa", sum := "225dfb3f64ed21c37a73daa583a4d879f27af78602a84752350cda72aa95fc17", func := "rampart/rampartlaw17.WindowRises", spec := "windowRises", unfollowed := true, recurses := true, apart := false, narrowed := true }
def WindowRisesUptoSaid : Prop := windowRisesUptoRow.holds Try.pinned (OpenSpec.upto windowRisesSpec)

/-- 'rampartlaw17.WindowTwice', WHERE WHAT IT READS IS OF BULK AT MOST 1048576: true; the input reads as it did. -/
def windowTwiceUptoRow : OpenClaim := { program := "ytfgpcaadgfgkcaa", sum := "225dfb3f64ed21c37a73daa583a4d879f27af78602a84752350cda72aa95fc17", func := "rampart/rampartlaw17.WindowTwice", spec := "windowTwice", unfollowed := true, recurses := true, apart := false, narrowed := true }
def WindowTwiceUptoSaid : Prop := windowTwiceUptoRow.holds Try.pinned (OpenSpec.upto windowTwiceSpec)

/-- 'rampartlaw17.WindowBegins', WHERE WHAT IT READS IS OF BULK AT MOST 1048576: true; the input reads as it did. -/
def windowBeginsUptoRow : OpenClaim := { program := "ytfgpcaadgfgkcaa", sum := "225dfb3f64ed21c37a73daa583a4d879f27af78602a84752350cda72aa95fc17", func := "rampart/rampartlaw17.WindowBegins", spec := "windowBegins", unfollowed := true, recurses := true, apart := false, narrowed := true }
def WindowBeginsUptoSaid : Prop := windowBeginsUptoRow.holds Try.pinned (OpenSpec.upto windowBeginsSpec)

/-- 'rampartlaw17.WindowShift', WHERE WHAT IT READS IS OF BULK AT MOST 1048576: true; the input reads as it did. -/
def windowShiftUptoRow : OpenClaim := { program := "ytfgpcaadgfgkcaa", sum := "225dfb3f64ed21c37a73daa583a4d879f27af78602a84752350cda72aa95fc17", func := "rampart/rampartlaw17.WindowShift", spec := "windowShift", unfollowed := true, recurses := true, apart := false, narrowed := true }
def WindowShiftUptoSaid : Prop := windowShiftUptoRow.holds Try.pinned (OpenSpec.upto windowShiftSpec)

/-- 'rampartlaw18.AcceptAgain', WHERE WHAT IT READS IS OF BULK AT MOST 1048576: true; the input reads as it did. -/
def acceptAgainUptoRow : OpenClaim := { program := "ytfgpcaadgfgkcaa", sum := "225dfb3f64ed21c37a73daa583a4d879f27af78602a84752350cda72aa95fc17", func := "rampart/rampartlaw18.AcceptAgain", spec := "acceptAgain", unfollowed := true, recurses := true, apart := false, narrowed := true }
def AcceptAgainUptoSaid : Prop := acceptAgainUptoRow.holds Try.pinned (OpenSpec.upto acceptAgainSpec)

end Rows
end Go.Proofs.Ytfgpcaadgfgkcaa
