/- Small lemmas on blocks of memory, for walks of laws that call functions which make memory. No conditions but those named. -/
import Derived.Test.YtfgpcaadgfgkcaaWWords
import Derived.Test.YtfgpcaadgfgkcaaWLast
import Derived.Deep.Draws
namespace Go.Proofs.Ytfgpcaadgfgkcaa.World_
open Go.RowKit Go.Proofs.YtfgpcaadgfgkcaaW.PrintWords Go.Proofs.YtfgpcaadgfgkcaaW.PrintLast
theorem size_al (w : World) (o : Obj) : (w.alloc o).heap.size = w.heap.size + 1 := by show (w.heap.push o).size = _; simp
theorem alloc_last {w : World} (o : Obj) : (w.alloc o).heap[w.heap.size]? = some o := by
  show (w.heap.push o)[w.heap.size]? = some o
  simp
theorem alloc_at {w : World} {n : Nat} (h : n = w.heap.size) (o : Obj) : (w.alloc o).heap[n]? = some o := h ▸ alloc_last o
theorem lt_of {w : World} {b : Nat} {o : Obj} (h : w.heap[b]? = some o) : b < w.heap.size := by
  rcases Nat.lt_or_ge b w.heap.size with h' | h'
  · exact h'
  · simp [Array.getElem?_eq_none h'] at h
theorem keep {W w1 : World} {g : Nat} {o : Obj} (h : W.heap[g]? = some o) (hb : Below W.heap.size W w1) : w1.heap[g]? = some o := (hb.block g (lt_of h)).trans h
theorem alloc_old {w : World} {g : Nat} {o : Obj} (h : w.heap[g]? = some o) (o' : Obj) : (w.alloc o').heap[g]? = some o := keep h ((Below.refl _ _).alloc (Nat.le_refl _) o')
theorem blk_all {w : World} {g : Nat} {t : TypeId} {cs : Array Value} (h : w.heap[g]? = some (.cells cs t (0, 0))) : (∀ i, w.cell? ⟨g, i, none⟩ = cs[i]?) ∧ ∀ i, w.frozen? ⟨g, i, none⟩ = false := ⟨fun i => blk_cell h i, fun i => blk_frozen h i⟩
theorem below_al {B : Nat} {a w : World} (h : Below B a w) (hB : B ≤ w.heap.size) (o : Obj) : Below B a (w.alloc o) := h.alloc hB o
theorem dB {P : Program} {f : FuncId} {as : Array Value} {w : World} {r : Ending} (h : Calls P f as w fun e w' => e = r ∧ Drawn0 w w') : Calls P f as w fun e w' => e = r ∧ Below w.heap.size w w' := h.mono fun _ _ ⟨a, b⟩ => ⟨a, b.below⟩
/-- A contract whose result is called by another name. -/
theorem named {P : Program} {f : FuncId} {as : Array Value} {w : World} {r r' : Ending} (h : Calls P f as w fun e w' => e = r ∧ Below w.heap.size w w') (e : r = r') : Calls P f as w fun e w' => e = r' ∧ Below w.heap.size w w' := e ▸ h
theorem ni {P : Program} {f : FuncId} {as : Array Value} {w : World} {k : IntKind} {a b : Int} (h : Calls P f as w fun e w' => e = .returned (.int k a) ∧ Below w.heap.size w w') (e : a = b) : Calls P f as w fun e w' => e = .returned (.int k b) ∧ Below w.heap.size w w' := e ▸ h
theorem nb {P : Program} {f : FuncId} {as : Array Value} {w : World} {a b : Bool} (h : Calls P f as w fun e w' => e = .returned (.bool a) ∧ Below w.heap.size w w') (e : a = b) : Calls P f as w fun e w' => e = .returned (.bool b) ∧ Below w.heap.size w w' := e ▸ h
theorem n2 {P : Program} {f : FuncId} {as : Array Value} {w : World} {k k' : IntKind} {a b a' b' : Int} (h : Calls P f as w fun e w' => e = .returned (.tuple #[.int k a, .int k' b]) ∧ Below w.heap.size w w') (e : a = a') (e' : b = b') : Calls P f as w fun e w' => e = .returned (.tuple #[.int k a', .int k' b']) ∧ Below w.heap.size w w' := e ▸ e' ▸ h
end Go.Proofs.Ytfgpcaadgfgkcaa.World_
