/- A segment that can be can be again, and leads to where it led: for every state and class; no condition. -/
import Derived.Test.YtaemgicmbnmecaaPAllx11
import Derived.Test.YtaemgicmbnmecaaPAllx12
import Derived.Test.YtaemgicmbnmecaaPAllx13
import Derived.Test.YtaemgicmbnmecaaPAllx15
import Derived.Test.YtaemgicmbnmecaaPAllx19
namespace Go.Proofs.Ytaemgicmbnmecaa.Pure
open Go.RowKit Go.Proofs.Ytaemgicmbnmecaa.PAll Go.Proofs.YtaemgicmbnmecaaW.PrintWords Go.Proofs.YtaemgicmbnmecaaW.PrintLast
set_option linter.unusedVariables false
set_option linter.unusedSimpArgs false
theorem u8_b {a : Int} (h : (Lit.int .u8 a).wf = true) : 0 ≤ a ∧ a ≤ 255 := by
  simp only [Lit.wf, Bool.and_eq_true, decide_eq_true_eq] at h; exact h
theorem w64 {a : Int} (h : -9223372036854775808 ≤ a ∧ a ≤ 9223372036854775807) : wrap64 a = a := by unfold wrap64; omega
theorem tm {a : Int} (m : Nat) (h : 0 ≤ a ∧ a ≤ 255) : Int.tmod (wrap64 a) m = ((a.toNat % m : Nat) : Int) := by
  rw [w64 (by omega), Int.tmod_eq_emod_of_nonneg h.1]
  obtain ⟨n, rfl⟩ := Int.eq_ofNat_of_zero_le h.1
  rw [Int.toNat_natCast]
  simp
theorem all_twice : ∀ (s : Fin 10) (r : Bool) (c : Fin 6), ((phase_Next.f 60 (s.1 : Int) r (c.1 : Int)).bind fun x => if x.2 = true then (phase_Next.f 60 x.1 r (c.1 : Int)).bind fun y => some (y.2 && x.1 == y.1) else some (x.1 == (s.1 : Int))) = some true := by decide +kernel
theorem known : rampartlaw19_known.f 60 = some true := by decide +kernel
theorem PhaseTwice : rampartlaw19_PhaseTwice.Pure := by
  intro a r c ha hc
  have ha := u8_b ha
  have hc := u8_b hc
  refine ⟨60, ?_⟩
  unfold rampartlaw19_PhaseTwice.f
  rw [show Int.tmod (wrap64 a) 10 = ((a.toNat % 10 : Nat) : Int) from tm 10 ha, show Int.tmod (wrap64 c) 6 = ((c.toNat % 6 : Nat) : Int) from tm 6 hc, known]
  have h := all_twice ⟨a.toNat % 10, by omega⟩ r ⟨c.toNat % 6, by omega⟩
  simp only at h
  revert h
  generalize phase_Next.f 60 ((a.toNat % 10 : Nat) : Int) r ((c.toNat % 6 : Nat) : Int) = o
  intro h
  cases o with
  | none => simp at h
  | some x =>
    simp only [Option.bind_some] at h ⊢
    by_cases hx : x.2 = true
    · rw [if_pos hx] at h ⊢
      revert h
      generalize phase_Next.f 60 x.1 r ((c.toNat % 6 : Nat) : Int) = o
      intro h
      cases o with
      | none => simp at h
      | some y =>
        simp only [Option.bind_some, Option.some.injEq, Bool.and_eq_true, beq_iff_eq] at h ⊢
        rw [if_pos h.1, if_pos h.2]
    · rw [if_neg hx] at h ⊢
      simp only [Option.some.injEq, beq_iff_eq] at h
      rw [if_pos h]
end Go.Proofs.Ytaemgicmbnmecaa.Pure
