/- Arguments of array types, opened: their cells, their numbers' bounds. No conditions. -/
import Derived.Test.YtfgpcaadgfgkcaaOpens
import Derived.Test.YtfgpcaadgfgkcaaProg
import Derived.KernelRfl
namespace Go.Proofs.Ytfgpcaadgfgkcaa.Openers
open Go.RowKit Go.Proofs.YtfgpcaadgfgkcaaW.PrintWords Go.Proofs.Ytfgpcaadgfgkcaa.Opens
section
variable {H : Type} {enc : TypeId × Value → H} {w : World} {base : Nat} {spare : Nat → Bool} {held : Bool}
theorem okWide_array {P : Program} {w : World} {r : Reach} {b0 : Nat} {t e : TypeId} {n : Nat} {v : Value} (ht : P.underlying t = some (.array n e)) (h : Value.okWide P w r b0 t v) : ∃ cs, v = .agg cs ∧ cs.size = P.cellsOf t := by
  simp only [Value.okWide, ht] at h
  obtain ⟨cs, h1, h2, _⟩ := h
  exact ⟨cs, h1, h2⟩
theorem two {t e : TypeId} {k : IntKind} (ht : Try.prog.underlying t = some (.array 2 e)) (he : Try.prog.underlying e = some (.int k)) (hc : Try.prog.cellsOf t = 2 * Try.prog.cellsOf e) (hce : Try.prog.cellsOf e = 1) {r : Reach} {b0 : Nat} {v : Value} {d : DataW H} {p : List MemPlace}
    (hv : Value.okWide Try.prog w r b0 t v) (h : DataW.Trod enc Try.prog w base spare held t v d p) : ∃ x y : Int, v = .agg #[.int k x, .int k y] ∧ (Lit.int k x).wf = true ∧ (Lit.int k y).wf = true := by
  obtain ⟨cs, rfl, _⟩ := okWide_array ht hv
  obtain ⟨fuel, hf⟩ := h
  obtain ⟨a, hk, hw⟩ := (op_array (d := Kd.pair (Kd.int k) (Kd.int k)) id id (fun _ => rfl) ht hc (opl_cons (op_int he hce) (opl_one (op_int he hce)))).2 _ _ _ hf
  obtain ⟨_, _, h0, rfl, rfl⟩ := hk
  refine ⟨a.1, a.2, ?_, hw.1, hw.2⟩
  have h1 : cs.toList = (#[.int k a.1, .int k a.2] : Array Value).toList := h0
  rw [Array.toList_inj.1 h1]
theorem open_2u32 {r : Reach} {b0 : Nat} {v : Value} {d : DataW H} {p : List MemPlace} (hv : Value.okWide Try.prog w r b0 42 v) (h : DataW.Trod enc Try.prog w base spare held 42 v d p) :
    ∃ x y : Int, v = .agg #[.int .u32 x, .int .u32 y] ∧ (Lit.int .u32 x).wf = true ∧ (Lit.int .u32 y).wf = true := two Try.underlying42 Try.underlying22 (by kernel_rfl) (by kernel_rfl) hv h
theorem nums {t e : TypeId} {k : IntKind} (ht : Try.prog.underlying t = some (.slice e)) (he : Try.prog.underlying e = some (.int k)) (hc : Try.prog.cellsOf t = 1) (hce : Try.prog.cellsOf e = 1) {r : Reach} {b0 : Nat} {v : Value} {d : DataW H} {p : List MemPlace}
    (hv : Value.okWide Try.prog w r b0 t v) (h : DataW.Trod enc Try.prog w base spare held t v d p) : ∃ (l : List Int) (A : Option Addr) (c : Nat), v = .slice A l.length c ∧ (Kd.C (Kd.int k) w A l.length l ∧ l.length ≤ c) ∧ l.length ≤ 9223372036854775807 := by
  obtain ⟨A, len, cap, rfl⟩ := Go.WideShapes.okWide_slice ht hv
  obtain ⟨fuel, hf⟩ := h
  obtain ⟨a, ⟨A', c', h0, h1, h2⟩, hl, _⟩ := (op_slice ht hc (op_int he hce)).2 _ _ _ hf
  have h3 : [Value.slice A len cap] = [Value.slice A' a.length c'] := h0
  injection h3 with h3
  injection h3 with h4 h5 h6
  subst h4 h5 h6
  exact ⟨a, A, cap, rfl, ⟨h2, h1⟩, by unfold maxLen at hl; exact hl⟩
theorem open_u8s {r : Reach} {b0 : Nat} {v : Value} {d : DataW H} {p : List MemPlace} (hv : Value.okWide Try.prog w r b0 79 v) (h : DataW.Trod enc Try.prog w base spare held 79 v d p) :
    ∃ (l : List Int) (A : Option Addr) (c : Nat), v = .slice A l.length c ∧ (Kd.C (Kd.int .u8) w A l.length l ∧ l.length ≤ c) ∧ l.length ≤ 9223372036854775807 := nums Try.underlying79 Try.underlying5 (by kernel_rfl) (by kernel_rfl) hv h
end
end Go.Proofs.Ytfgpcaadgfgkcaa.Openers
