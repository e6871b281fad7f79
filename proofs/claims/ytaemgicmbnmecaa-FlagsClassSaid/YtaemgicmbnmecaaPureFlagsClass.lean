/- Of what class any flags are, and a class's name, is as the reference says: for every int; no condition. -/
import Derived.Test.YtaemgicmbnmecaaPAllx1
import Derived.Test.YtaemgicmbnmecaaPAllx2
import Derived.Test.YtaemgicmbnmecaaPAllx3
import Derived.Test.YtaemgicmbnmecaaPAllx5
namespace Go.Proofs.Ytaemgicmbnmecaa.Pure
open Go.RowKit Go.Proofs.Ytaemgicmbnmecaa.PAll Go.Proofs.YtaemgicmbnmecaaW.PrintWords Go.Proofs.YtaemgicmbnmecaaW.PrintLast
set_option linter.unusedVariables false
set_option linter.unusedSimpArgs false
theorem known : rampartlaw10_known.f 60 = some true := by decide +kernel
theorem all_class : ∀ i : Fin 64, flags_Class.f 60 (i.1 : Int) = rampartref10_Class.f 60 (i.1 : Int) ∧ (flags_Class.f 60 (i.1 : Int)).isSome = true := by decide +kernel
theorem all_name : ∀ i : Fin 6, flags_Name.f (i.1 : Int) = rampartref10_Name.f (i.1 : Int) ∧ (flags_Name.f (i.1 : Int)).isSome = true := by decide +kernel
theorem class_eq (n : Int) : ∃ x, flags_Class.f 60 n = some x ∧ rampartref10_Class.f 60 n = some x := by
  by_cases h : n < 0
  · refine ⟨0, ?_, ?_⟩
    · unfold flags_Class.f; rw [if_pos h]; rfl
    · unfold rampartref10_Class.f; rw [if_pos h]; rfl
  · by_cases h2 : n > 63
    · refine ⟨0, ?_, ?_⟩
      · unfold flags_Class.f; rw [if_neg h, decide_eq_true h2]; rfl
      · unfold rampartref10_Class.f; rw [if_neg h, decide_eq_true h2]; rfl
    · obtain ⟨h1, h2⟩ := all_class ⟨n.toNat, by omega⟩
      rw [show ((n.toNat : Nat) : Int) = n by omega] at h1 h2
      obtain ⟨x, hx⟩ := Option.isSome_iff_exists.1 h2
      exact ⟨x, hx, h1 ▸ hx⟩
theorem name_eq (s : Int) : ∃ x, flags_Name.f s = some x ∧ rampartref10_Name.f s = some x := by
  by_cases h : s < 0
  · exact ⟨_, by unfold flags_Name.f; rw [if_pos h], by unfold rampartref10_Name.f; rw [if_pos h]⟩
  · by_cases h9 : s > 5
    · refine ⟨_, ?_, by unfold rampartref10_Name.f; rw [if_neg h, if_pos h9]⟩
      unfold flags_Name.f
      simp [h, show ¬ s = 0 by omega, show ¬ s = 1 by omega, show ¬ s = 2 by omega, show ¬ s = 3 by omega, show ¬ s = 4 by omega, show ¬ s = 5 by omega]
    · obtain ⟨h1, h2⟩ := all_name ⟨s.toNat, by omega⟩
      rw [show ((s.toNat : Nat) : Int) = s by omega] at h1 h2
      obtain ⟨x, hx⟩ := Option.isSome_iff_exists.1 h2
      exact ⟨x, hx, h1 ▸ hx⟩
theorem FlagsClass : rampartlaw10_FlagsClass.Pure := by
  intro n hn
  obtain ⟨x, x1, x2⟩ := class_eq n
  obtain ⟨y, y1, y2⟩ := name_eq n
  refine ⟨60, ?_⟩
  unfold rampartlaw10_FlagsClass.f
  rw [x1, x2, y1, y2, known]
  simp
end Go.Proofs.Ytaemgicmbnmecaa.Pure
