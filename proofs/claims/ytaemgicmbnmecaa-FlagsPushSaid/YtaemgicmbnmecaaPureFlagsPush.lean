/- Psh and Urg make no difference for a class; Rst with Syn or Fin is bad: for every byte; no condition. -/
import Derived.Test.YtaemgicmbnmecaaPAllx8
namespace Go.Proofs.Ytaemgicmbnmecaa.Pure
open Go.RowKit Go.Proofs.Ytaemgicmbnmecaa.PAll Go.Proofs.YtaemgicmbnmecaaW.PrintWords Go.Proofs.YtaemgicmbnmecaaW.PrintLast
set_option linter.unusedVariables false
set_option linter.unusedSimpArgs false
theorem u8_b {a : Int} (h : (Lit.int .u8 a).wf = true) : 0 ≤ a ∧ a ≤ 255 := by
  simp only [Lit.wf, Bool.and_eq_true, decide_eq_true_eq] at h; exact h
theorem w64 {a : Int} (h : -9223372036854775808 ≤ a ∧ a ≤ 9223372036854775807) : wrap64 a = a := by unfold wrap64; omega
theorem tm {a : Int} (m : Nat) (h : 0 ≤ a ∧ a ≤ 255) : Int.tmod (wrap64 a) m = ((a.toNat % m : Nat) : Int) := by
  rw [w64 (by omega), Int.tmod_eq_emod_of_nonneg h.1]
  obtain ⟨n, rfl⟩ := Int.eq_ofNat_of_zero_le h.1
  rw [Int.toNat_natCast]
  simp
theorem all_push : ∀ i : Fin 256, rampartlaw10_FlagsPush.f 60 (i.1 : Int) = some true := by decide +kernel
theorem FlagsPush : rampartlaw10_FlagsPush.Pure := by
  intro a ha
  have ha := u8_b ha
  refine ⟨60, ?_⟩
  have := all_push ⟨a.toNat, by omega⟩
  rw [show ((a.toNat : Nat) : Int) = a by omega] at this
  exact this
end Go.Proofs.Ytaemgicmbnmecaa.Pure
