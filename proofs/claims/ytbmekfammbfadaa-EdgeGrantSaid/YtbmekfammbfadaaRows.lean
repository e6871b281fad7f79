/-
  No cell of these rows narrows 'for every input' (looked for: loops, veiled, ifaces, maps, wideKeys, modest, calm, conditions, laid).
  DERIVED. THE GIVEN ROWS OF THIS SEAT. 11 by the template 'for every input the law returns true; each argument reads behind the call as it read before'; 0 by the template 'total and deterministic' (their statements: YtbmekfammbfadaaTotals.lean).
  GIVEN WITH THE SEED: the statements are not yours to turn. If you find one false, say at which input.
  Laid BY PROGRAM, IN A SANDBOX (cutbox-rows.mjs): the forced cells as the released guide's own fill.sh prints them over the translation a1b46244b71016ba… (all of the seat's roots in one cut). By AI agents, Wed Nov 11 2026. No macro, syntax, notation, axiom, sorry.
-/
import Derived.Test.YtbmekfammbfadaaChecked
import GoSem.Claim
import GoSem.ClaimJoined
import GoSem.ClaimMapViews
import Derived.JoinedTies
import Derived.KernelRfl
namespace Go.Proofs.Ytbmekfammbfadaa
/- THE CELL 'sum', in the pinned program and in every row, IS THE sha256 OF THE DUMP (.gsa) THAT YtbmekfammbfadaaProg.lean LOADS. Nothing in Lean hashes anything: it is a label: what it is worth is what the hold of that sum in a sandbox is worth. -/
noncomputable def Try.pinned : Pinned := { name := "ytbmekfammbfadaa", sum := "a1b46244b71016ba7540c0346f63058bccb89f2cd845f6ce82a01f2fd601ab4c", checked := Try.checked }
namespace Rows
def none {H : Type} : Left H := { results := [], args := [] }

/-- 'rampartlaw03.SeqnTells': WHATEVER THE INPUT: true; the input reads as it did. -/
def seqnTellsSpec : ChangeSpec := { name := "seqnTells", fn := fun _ => fun
  | [d1, d2, d3] => { results := [.lit (.bool true)], args := [d1, d2, d3] }
  | _ => none }
def seqnTellsRow : OpenClaim := { program := "ytbmekfammbfadaa", sum := "a1b46244b71016ba7540c0346f63058bccb89f2cd845f6ce82a01f2fd601ab4c", func := "rampart/rampartlaw03.SeqnTells", spec := "seqnTells", unfollowed := true, recurses := true, apart := false }
def SeqnTellsSaid : Prop := seqnTellsRow.holds Try.pinned (OpenSpec.ofChange seqnTellsSpec)

/-- ITS FALSE NEIGHBOUR: 'it returns false'. Refute it at one input. -/
def seqnTellsWrong : ChangeSpec := { name := "seqnTells", fn := fun _ => fun
  | [d1, d2, d3] => { results := [.lit (.bool false)], args := [d1, d2, d3] }
  | _ => none }
def SeqnTellsWrongFalsely : Prop := seqnTellsRow.holds Try.pinned (OpenSpec.ofChange seqnTellsWrong)

/-- 'rampartlaw03.SeqnBack': WHATEVER THE INPUT: true; the input reads as it did. -/
def seqnBackSpec : ChangeSpec := { name := "seqnBack", fn := fun _ => fun
  | [d1, d2, d3] => { results := [.lit (.bool true)], args := [d1, d2, d3] }
  | _ => none }
def seqnBackRow : OpenClaim := { program := "ytbmekfammbfadaa", sum := "a1b46244b71016ba7540c0346f63058bccb89f2cd845f6ce82a01f2fd601ab4c", func := "rampart/rampartlaw03.SeqnBack", spec := "seqnBack", unfollowed := true, recurses := true, apart := false }
def SeqnBackSaid : Prop := seqnBackRow.holds Try.pinned (OpenSpec.ofChange seqnBackSpec)

/-- ITS FALSE NEIGHBOUR: 'it returns false'. Refute it at one input. -/
def seqnBackWrong : ChangeSpec := { name := "seqnBack", fn := fun _ => fun
  | [d1, d2, d3] => { results := [.lit (.bool false)], args := [d1, d2, d3] }
  | _ => none }
def SeqnBackWrongFalsely : Prop := seqnBackRow.holds Try.pinned (OpenSpec.ofChange seqnBackWrong)

/-- 'rampartlaw03.SeqnOrder': WHATEVER THE INPUT: true; the input reads as it did. -/
def seqnOrderSpec : ChangeSpec := { name := "seqnOrder", fn := fun _ => fun
  | [d1, d2, d3] => { results := [.lit (.bool true)], args := [d1, d2, d3] }
  | _ => none }
def seqnOrderRow : OpenClaim := { program := "ytbmekfammbfadaa", sum := "a1b46244b71016ba7540c0346f63058bccb89f2cd845f6ce82a01f2fd601ab4c", func := "rampart/rampartlaw03.SeqnOrder", spec := "seqnOrder", unfollowed := true, recurses := true, apart := false }
def SeqnOrderSaid : Prop := seqnOrderRow.holds Try.pinned (OpenSpec.ofChange seqnOrderSpec)

/-- ITS FALSE NEIGHBOUR: 'it returns false'. Refute it at one input. -/
def seqnOrderWrong : ChangeSpec := { name := "seqnOrder", fn := fun _ => fun
  | [d1, d2, d3] => { results := [.lit (.bool false)], args := [d1, d2, d3] }
  | _ => none }
def SeqnOrderWrongFalsely : Prop := seqnOrderRow.holds Try.pinned (OpenSpec.ofChange seqnOrderWrong)

/-- 'rampartlaw03.SeqnNear': WHATEVER THE INPUT: true; the input reads as it did. -/
def seqnNearSpec : ChangeSpec := { name := "seqnNear", fn := fun _ => fun
  | [d1, d2] => { results := [.lit (.bool true)], args := [d1, d2] }
  | _ => none }
def seqnNearRow : OpenClaim := { program := "ytbmekfammbfadaa", sum := "a1b46244b71016ba7540c0346f63058bccb89f2cd845f6ce82a01f2fd601ab4c", func := "rampart/rampartlaw03.SeqnNear", spec := "seqnNear", unfollowed := true, recurses := true, apart := false }
def SeqnNearSaid : Prop := seqnNearRow.holds Try.pinned (OpenSpec.ofChange seqnNearSpec)

/-- ITS FALSE NEIGHBOUR: 'it returns false'. Refute it at one input. -/
def seqnNearWrong : ChangeSpec := { name := "seqnNear", fn := fun _ => fun
  | [d1, d2] => { results := [.lit (.bool false)], args := [d1, d2] }
  | _ => none }
def SeqnNearWrongFalsely : Prop := seqnNearRow.holds Try.pinned (OpenSpec.ofChange seqnNearWrong)

/-- 'rampartlaw03.SeqnWithin': WHATEVER THE INPUT: true; the input reads as it did. -/
def seqnWithinSpec : ChangeSpec := { name := "seqnWithin", fn := fun _ => fun
  | [d1, d2, d3] => { results := [.lit (.bool true)], args := [d1, d2, d3] }
  | _ => none }
def seqnWithinRow : OpenClaim := { program := "ytbmekfammbfadaa", sum := "a1b46244b71016ba7540c0346f63058bccb89f2cd845f6ce82a01f2fd601ab4c", func := "rampart/rampartlaw03.SeqnWithin", spec := "seqnWithin", unfollowed := true, recurses := true, apart := false }
def SeqnWithinSaid : Prop := seqnWithinRow.holds Try.pinned (OpenSpec.ofChange seqnWithinSpec)

/-- ITS FALSE NEIGHBOUR: 'it returns false'. Refute it at one input. -/
def seqnWithinWrong : ChangeSpec := { name := "seqnWithin", fn := fun _ => fun
  | [d1, d2, d3] => { results := [.lit (.bool false)], args := [d1, d2, d3] }
  | _ => none }
def SeqnWithinWrongFalsely : Prop := seqnWithinRow.holds Try.pinned (OpenSpec.ofChange seqnWithinWrong)

/-- 'rampartlaw03.SeqnLater': WHATEVER THE INPUT: true; the input reads as it did. -/
def seqnLaterSpec : ChangeSpec := { name := "seqnLater", fn := fun _ => fun
  | [d1, d2, d3] => { results := [.lit (.bool true)], args := [d1, d2, d3] }
  | _ => none }
def seqnLaterRow : OpenClaim := { program := "ytbmekfammbfadaa", sum := "a1b46244b71016ba7540c0346f63058bccb89f2cd845f6ce82a01f2fd601ab4c", func := "rampart/rampartlaw03.SeqnLater", spec := "seqnLater", unfollowed := true, recurses := true, apart := false }
def SeqnLaterSaid : Prop := seqnLaterRow.holds Try.pinned (OpenSpec.ofChange seqnLaterSpec)

/-- ITS FALSE NEIGHBOUR: 'it returns false'. Refute it at one input. -/
def seqnLaterWrong : ChangeSpec := { name := "seqnLater", fn := fun _ => fun
  | [d1, d2, d3] => { results := [.lit (.bool false)], args := [d1, d2, d3] }
  | _ => none }
def SeqnLaterWrongFalsely : Prop := seqnLaterRow.holds Try.pinned (OpenSpec.ofChange seqnLaterWrong)

/-- 'rampartlaw16.EdgeTells': WHATEVER THE INPUT: true; the input reads as it did. -/
def edgeTellsSpec : ChangeSpec := { name := "edgeTells", fn := fun _ => fun
  | [d1, d2, d3] => { results := [.lit (.bool true)], args := [d1, d2, d3] }
  | _ => none }
def edgeTellsRow : OpenClaim := { program := "ytbmekfammbfadaa", sum := "a1b46244b71016ba7540c0346f63058bccb89f2cd845f6ce82a01f2fd601ab4c", func := "rampart/rampartlaw16.EdgeTells", spec := "edgeTells", unfollowed := true, recurses := true, apart := false }
def EdgeTellsSaid : Prop := edgeTellsRow.holds Try.pinned (OpenSpec.ofChange edgeTellsSpec)

/-- ITS FALSE NEIGHBOUR: 'it returns false'. Refute it at one input. -/
def edgeTellsWrong : ChangeSpec := { name := "edgeTells", fn := fun _ => fun
  | [d1, d2, d3] => { results := [.lit (.bool false)], args := [d1, d2, d3] }
  | _ => none }
def EdgeTellsWrongFalsely : Prop := edgeTellsRow.holds Try.pinned (OpenSpec.ofChange edgeTellsWrong)

/-- 'rampartlaw16.EdgeShifts': WHATEVER THE INPUT: true; the input reads as it did. -/
def edgeShiftsSpec : ChangeSpec := { name := "edgeShifts", fn := fun _ => fun
  | [d1, d2] => { results := [.lit (.bool true)], args := [d1, d2] }
  | _ => none }
def edgeShiftsRow : OpenClaim := { program := "ytbmekfammbfadaa", sum := "a1b46244b71016ba7540c0346f63058bccb89f2cd845f6ce82a01f2fd601ab4c", func := "rampart/rampartlaw16.EdgeShifts", spec := "edgeShifts", unfollowed := true, recurses := true, apart := false }
def EdgeShiftsSaid : Prop := edgeShiftsRow.holds Try.pinned (OpenSpec.ofChange edgeShiftsSpec)

/-- ITS FALSE NEIGHBOUR: 'it returns false'. Refute it at one input. -/
def edgeShiftsWrong : ChangeSpec := { name := "edgeShifts", fn := fun _ => fun
  | [d1, d2] => { results := [.lit (.bool false)], args := [d1, d2] }
  | _ => none }
def EdgeShiftsWrongFalsely : Prop := edgeShiftsRow.holds Try.pinned (OpenSpec.ofChange edgeShiftsWrong)

/-- 'rampartlaw16.EdgeEnds': WHATEVER THE INPUT: true; the input reads as it did. -/
def edgeEndsSpec : ChangeSpec := { name := "edgeEnds", fn := fun _ => fun
  | [d] => { results := [.lit (.bool true)], args := [d] }
  | _ => none }
def edgeEndsRow : OpenClaim := { program := "ytbmekfammbfadaa", sum := "a1b46244b71016ba7540c0346f63058bccb89f2cd845f6ce82a01f2fd601ab4c", func := "rampart/rampartlaw16.EdgeEnds", spec := "edgeEnds", unfollowed := true, recurses := true, apart := false }
def EdgeEndsSaid : Prop := edgeEndsRow.holds Try.pinned (OpenSpec.ofChange edgeEndsSpec)

/-- ITS FALSE NEIGHBOUR: 'it returns false'. Refute it at one input. -/
def edgeEndsWrong : ChangeSpec := { name := "edgeEnds", fn := fun _ => fun
  | [d] => { results := [.lit (.bool false)], args := [d] }
  | _ => none }
def EdgeEndsWrongFalsely : Prop := edgeEndsRow.holds Try.pinned (OpenSpec.ofChange edgeEndsWrong)

/-- 'rampartlaw16.EdgeLast': WHATEVER THE INPUT: true; the input reads as it did. -/
def edgeLastSpec : ChangeSpec := { name := "edgeLast", fn := fun _ => fun
  | [d] => { results := [.lit (.bool true)], args := [d] }
  | _ => none }
def edgeLastRow : OpenClaim := { program := "ytbmekfammbfadaa", sum := "a1b46244b71016ba7540c0346f63058bccb89f2cd845f6ce82a01f2fd601ab4c", func := "rampart/rampartlaw16.EdgeLast", spec := "edgeLast", unfollowed := true, recurses := true, apart := false }
def EdgeLastSaid : Prop := edgeLastRow.holds Try.pinned (OpenSpec.ofChange edgeLastSpec)

/-- ITS FALSE NEIGHBOUR: 'it returns false'. Refute it at one input. -/
def edgeLastWrong : ChangeSpec := { name := "edgeLast", fn := fun _ => fun
  | [d] => { results := [.lit (.bool false)], args := [d] }
  | _ => none }
def EdgeLastWrongFalsely : Prop := edgeLastRow.holds Try.pinned (OpenSpec.ofChange edgeLastWrong)

/-- 'rampartlaw16.EdgeGrant': WHATEVER THE INPUT: true; the input reads as it did. -/
def edgeGrantSpec : ChangeSpec := { name := "edgeGrant", fn := fun _ => fun
  | [d1, d2, d3] => { results := [.lit (.bool true)], args := [d1, d2, d3] }
  | _ => none }
def edgeGrantRow : OpenClaim := { program := "ytbmekfammbfadaa", sum := "a1b46244b71016ba7540c0346f63058bccb89f2cd845f6ce82a01f2fd601ab4c", func := "rampart/rampartlaw16.EdgeGrant", spec := "edgeGrant", unfollowed := true, recurses := true, apart := false }
def EdgeGrantSaid : Prop := edgeGrantRow.holds Try.pinned (OpenSpec.ofChange edgeGrantSpec)

/-- ITS FALSE NEIGHBOUR: 'it returns false'. Refute it at one input. -/
def edgeGrantWrong : ChangeSpec := { name := "edgeGrant", fn := fun _ => fun
  | [d1, d2, d3] => { results := [.lit (.bool false)], args := [d1, d2, d3] }
  | _ => none }
def EdgeGrantWrongFalsely : Prop := edgeGrantRow.holds Try.pinned (OpenSpec.ofChange edgeGrantWrong)

/- THE SECOND FORM. 'bulk': how many values and letters a reading holds, each counted each time it is reached (what is shared counts as often as it is met; a slice's spare places count too). A statement '..UptoSaid' is the law's where the arguments, and the package variables that the reading takes, are together of bulk at most 1048576: NARROWER than '..Said'. Prove '..Said' where nothing that the law and all that it calls make is longer than what came in: it says more and counts as full. Else prove '..UptoSaid'. A law counts once. -/
mutual
def uptoBulk {H : Type} : DataW H → Nat
  | .lit (.string bytes) => bytes.length + 1
  | .lit _ => 1
  | .nil => 1
  | .ptr d => uptoBulk d + 1
  | .slice elems spare => uptoBulkAll elems + uptoBulkAll spare + 1
  | .agg parts => uptoBulkAll parts + 1
  | .iface _ d => uptoBulk d + 1
  | .map entries => uptoBulkEntries entries + 1
  | .held _ => 1
def uptoBulkAll {H : Type} : List (DataW H) → Nat
  | [] => 0
  | d :: r => uptoBulk d + uptoBulkAll r
def uptoBulkEntries {H : Type} : List (Lit × DataW H) → Nat
  | [] => 0
  | x :: r => uptoBulkEntry x + uptoBulkEntries r
def uptoBulkEntry {H : Type} : Lit × DataW H → Nat
  | (.string bytes, d) => bytes.length + uptoBulk d + 1
  | (_, d) => uptoBulk d + 1
 end
def uptoSmall : (H : Type) → List (DataW H) → Bool := fun _ ds => decide (uptoBulkAll ds ≤ 1048576)
def OpenSpec.upto (s : _root_.Go.ChangeSpec) : _root_.Go.OpenSpec := { _root_.Go.OpenSpec.ofChange s with cond := some uptoSmall }

/-- 'rampartlaw03.SeqnTells', WHERE WHAT IT READS IS OF BULK AT MOST 1048576: true; the input reads as it did. -/
def seqnTellsUptoRow : OpenClaim := { program := "ytbmekfammbfadaa", sum := "a1b46244b71016ba7540c0346f63058bccb89f2cd845f6ce82a01f2fd601ab4c", func := "rampart/rampartlaw03.SeqnTells", spec := "seqnTells", unfollowed := true, recurses := true, apart := false, narrowed := true }
def SeqnTellsUptoSaid : Prop := seqnTellsUptoRow.holds Try.pinned (OpenSpec.upto seqnTellsSpec)

/-- 'rampartlaw03.SeqnBack', WHERE WHAT IT READS IS OF BULK AT MOST 1048576: true; the input reads as it did. -/
def seqnBackUptoRow : OpenClaim := { program := "ytbmekfammbfadaa", sum := "a1b46244b71016ba7540c0346f63058bccb89f2cd845f6ce82a01f2fd601ab4c", func := "rampart/rampartlaw03.SeqnBack", spec := "seqnBack", unfollowed := true, recurses := true, apart := false, narrowed := true }
def SeqnBackUptoSaid : Prop := seqnBackUptoRow.holds Try.pinned (OpenSpec.upto seqnBackSpec)

/-- 'rampartlaw03.SeqnOrder', WHERE WHAT IT READS IS OF BULK AT MOST 1048576: true; the input reads as it did. -/
def seqnOrderUptoRow : OpenClaim := { program := "ytbmekfammbfadaa", sum := "a1b46244b71016ba7540c0346f63058bccb89f2cd845f6ce82a01f2fd601ab4c", func := "rampart/rampartlaw03.SeqnOrder", spec := "seqnOrder", unfollowed := true, recurses := true, apart := false, narrowed := true }
def SeqnOrderUptoSaid : Prop := seqnOrderUptoRow.holds Try.pinned (OpenSpec.upto seqnOrderSpec)

/-- 'rampartlaw03.SeqnNear', WHERE WHAT IT READS IS OF BULK AT MOST 1048576: true; the input reads as it did. -/
def seqnNearUptoRow : OpenClaim := { program := "ytbmekfammbfadaa", sum := "a1b46244b71016ba7540c0346f63058bccb89f2cd845f6ce82a01f2fd601ab4c", func := "rampart/rampartlaw03.SeqnNear", spec := "seqnNear", unfollowed := true, recurses := true, apart := false, narrowed := true }
def SeqnNearUptoSaid : Prop := seqnNearUptoRow.holds Try.pinned (OpenSpec.upto seqnNearSpec)

/-- 'rampartlaw03.SeqnWithin', WHERE WHAT IT READS IS OF BULK AT MOST 1048576: true; the input reads as it did. -/
def seqnWithinUptoRow : OpenClaim := { program := "ytbmekfammbfadaa", sum := "a1b46244b71016ba7540c0346f63058bccb89f2cd845f6ce82a01f2fd601ab4c", func := "rampart/rampartlaw03.SeqnWithin", spec := "seqnWithin", unfollowed := true, recurses := true, apart := false, narrowed := true }
def SeqnWithinUptoSaid : Prop := seqnWithinUptoRow.holds Try.pinned (OpenSpec.upto seqnWithinSpec)

/-- 'rampartlaw03.SeqnLater', WHERE WHAT IT READS IS OF BULK AT MOST 1048576: true; the input reads as it did. -/
def seqnLaterUptoRow : OpenClaim := { program := "ytbmekfammbfadaa", sum := "a1b46244b71016ba7540c0346f63058bccb89f2cd845f6ce82a01f2fd601ab4c", func := "rampart/rampartlaw03.SeqnLater", spec := "seqnLater", unfollowed := true, recurses := true, apart := false, narrowed := true }
def SeqnLaterUptoSaid : Prop := seqnLaterUptoRow.holds Try.pinned (OpenSpec.upto seqnLaterSpec)

/-- 'rampartlaw16.EdgeTells', WHERE WHAT IT READS IS OF BULK AT MOST 1048576: true; the input reads as it did. -/
def edgeTellsUptoRow : OpenClaim := { program := "ytbmekfammbfadaa", sum := "a1b46244b71016ba7540c0346f63058bccb89f2cd845f6ce82a01f2fd601ab4c", func := "rampart/rampartlaw16.EdgeTells", spec := "edgeTells", unfollowed := true, recurses := true, apart := false, narrowed := true }
def EdgeTellsUptoSaid : Prop := edgeTellsUptoRow.holds Try.pinned (OpenSpec.upto edgeTellsSpec)

/-- 'rampartlaw16.EdgeShifts', WHERE WHAT IT READS IS OF BULK AT MOST 1048576: true; the input reads as it did. -/
def edgeShiftsUptoRow : OpenClaim := { program := "ytbmekfammbfadaa", sum := "a1b46244b71016ba7540c0346f63058bccb89f2cd845f6ce82a01f2fd601ab4c", func := "rampart/rampartlaw16.EdgeShifts", spec := "edgeShifts", unfollowed := true, recurses := true, apart := false, narrowed := true }
def EdgeShiftsUptoSaid : Prop := edgeShiftsUptoRow.holds Try.pinned (OpenSpec.upto edgeShiftsSpec)

/-- 'rampartlaw16.EdgeEnds', WHERE WHAT IT READS IS OF BULK AT MOST 1048576: true; the input reads as it did. -/
def edgeEndsUptoRow : OpenClaim := { program := "ytbmekfammbfadaa", sum := "a1b46244b71016ba7540c0346f63058bccb89f2cd845f6ce82a01f2fd601ab4c", func := "rampart/rampartlaw16.EdgeEnds", spec := "edgeEnds", unfollowed := true, recurses := true, apart := false, narrowed := true }
def EdgeEndsUptoSaid : Prop := edgeEndsUptoRow.holds Try.pinned (OpenSpec.upto edgeEndsSpec)

/-- 'rampartlaw16.EdgeLast', WHERE WHAT IT READS IS OF BULK AT MOST 1048576: true; the input reads as it did. -/
def edgeLastUptoRow : OpenClaim := { program := "ytbmekfammbfadaa", sum := "a1b46244b71016ba7540c0346f63058bccb89f2cd845f6ce82a01f2fd601ab4c", func := "rampart/rampartlaw16.EdgeLast", spec := "edgeLast", unfollowed := true, recurses := true, apart := false, narrowed := true }
def EdgeLastUptoSaid : Prop := edgeLastUptoRow.holds Try.pinned (OpenSpec.upto edgeLastSpec)

/-- 'rampartlaw16.EdgeGrant', WHERE WHAT IT READS IS OF BULK AT MOST 1048576: true; the input reads as it did. -/
def edgeGrantUptoRow : OpenClaim := { program := "ytbmekfammbfadaa", sum := "a1b46244b71016ba7540c0346f63058bccb89f2cd845f6ce82a01f2fd601ab4c", func := "rampart/rampartlaw16.EdgeGrant", spec := "edgeGrant", unfollowed := true, recurses := true, apart := false, narrowed := true }
def EdgeGrantUptoSaid : Prop := edgeGrantUptoRow.holds Try.pinned (OpenSpec.upto edgeGrantSpec)

end Rows
end Go.Proofs.Ytbmekfammbfadaa
