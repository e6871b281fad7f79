/- The state behind any state, class and direction, names, and what is sure, and may begin anew, is as the reference says: for all ints; no condition. -/
import Derived.Test.YtaemgicmbnmecaaPAllx11
import Derived.Test.YtaemgicmbnmecaaPAllx12
import Derived.Test.YtaemgicmbnmecaaPAllx13
import Derived.Test.YtaemgicmbnmecaaPAllx15
import Derived.Test.YtaemgicmbnmecaaPAllx16
namespace Go.Proofs.Ytaemgicmbnmecaa.Pure
open Go.RowKit Go.Proofs.Ytaemgicmbnmecaa.PAll Go.Proofs.YtaemgicmbnmecaaW.PrintWords Go.Proofs.YtaemgicmbnmecaaW.PrintLast
set_option linter.unusedVariables false
set_option linter.unusedSimpArgs false
theorem known : rampartlaw19_known.f 60 = some true := by decide +kernel
theorem all_in : ∀ (s : Fin 10) (r : Bool) (c : Fin 6), phase_Next.f 60 (s.1 : Int) r (c.1 : Int) = rampartref19_Next.f 60 (s.1 : Int) r (c.1 : Int) ∧ (phase_Next.f 60 (s.1 : Int) r (c.1 : Int)).isSome = true := by decide +kernel
theorem all_nm : ∀ (s : Fin 10), phase_Name.f (s.1 : Int) = rampartref19_Name.f (s.1 : Int) ∧ (phase_Name.f (s.1 : Int)).isSome = true := by decide +kernel
theorem next_out (k : Nat) (s c : Int) (r : Bool) (h : s < 0 ∨ 9 < s ∨ c < 1 ∨ 4 < c) : phase_Next.f (k + 1) s r c = some (s, false) := by
  unfold phase_Next.f
  by_cases a : s < 0
  · rw [if_pos a]
    simp [phase_Next.j0]
  · rw [if_neg a]
    simp only [phase_Next.j0]
    by_cases b : s > 9
    · simp [b]
    · simp [b, show ¬ c = 1 by omega, show ¬ c = 2 by omega, show ¬ c = 3 by omega, show ¬ c = 4 by omega]
theorem rnext_out (k : Nat) (s c : Int) (r : Bool) (h : s < 0 ∨ 9 < s ∨ c < 1 ∨ 4 < c) : rampartref19_Next.f (k + 1) s r c = some (s, false) := by
  unfold rampartref19_Next.f
  by_cases a : s < 0
  · simp [a, rampartref19_Next.j0]
  · by_cases b : s > 9
    · simp [a, b, rampartref19_Next.j0]
    · by_cases d : c < 1
      · simp [a, b, d, rampartref19_Next.j0]
      · simp [a, b, d, rampartref19_Next.j0, show c > 4 by omega]
theorem next_eq (s c : Int) (r : Bool) : ∃ x, phase_Next.f 60 s r c = some x ∧ rampartref19_Next.f 60 s r c = some x := by
  by_cases h : s < 0 ∨ 9 < s ∨ c < 1 ∨ 4 < c
  · exact ⟨_, next_out 59 s c r h, rnext_out 59 s c r h⟩
  · obtain ⟨h1, h2⟩ := all_in ⟨s.toNat, by omega⟩ r ⟨c.toNat, by omega⟩
    rw [show ((s.toNat : Nat) : Int) = s by omega, show ((c.toNat : Nat) : Int) = c by omega] at h1 h2
    obtain ⟨x, hx⟩ := Option.isSome_iff_exists.1 h2
    exact ⟨x, hx, h1 ▸ hx⟩
theorem name_eq (s : Int) : ∃ x, phase_Name.f s = some x ∧ rampartref19_Name.f s = some x := by
  by_cases h : s < 0
  · exact ⟨_, by unfold phase_Name.f; rw [if_pos h], by unfold rampartref19_Name.f; rw [if_pos h]⟩
  · by_cases h9 : s > 9
    · refine ⟨_, ?_, by unfold rampartref19_Name.f; rw [if_neg h, if_pos h9]⟩
      unfold phase_Name.f
      simp [h, show ¬ s = 0 by omega, show ¬ s = 1 by omega, show ¬ s = 2 by omega, show ¬ s = 3 by omega, show ¬ s = 4 by omega, show ¬ s = 5 by omega, show ¬ s = 6 by omega, show ¬ s = 7 by omega, show ¬ s = 8 by omega, show ¬ s = 9 by omega]
    · obtain ⟨h1, h2⟩ := all_nm ⟨s.toNat, by omega⟩
      rw [show ((s.toNat : Nat) : Int) = s by omega] at h1 h2
      obtain ⟨x, hx⟩ := Option.isSome_iff_exists.1 h2
      exact ⟨x, hx, h1 ▸ hx⟩
theorem sure_eq (s : Int) : ∃ x, phase_Sure.f s = some x ∧ rampartref19_Sure.f s = some x := by
  unfold phase_Sure.f rampartref19_Sure.f
  by_cases h : s ≥ 4
  · rw [if_pos h, if_pos h]
    exact ⟨_, rfl, congrArg some (decide_eq_decide.2 (by omega))⟩
  · rw [if_neg h, if_neg h]
    exact ⟨_, rfl, rfl⟩
theorem reopens_eq (s c : Int) : ∃ x, phase_Reopens.f s c = some x ∧ rampartref19_Reopens.f s c = some x := by
  unfold phase_Reopens.f rampartref19_Reopens.f
  by_cases h : c = 1
  · rw [if_pos h]
    by_cases h2 : s = 8
    · rw [if_pos h2]; exact ⟨_, rfl, rfl⟩
    · rw [if_neg h2]; exact ⟨_, rfl, rfl⟩
  · rw [if_neg h]; exact ⟨_, rfl, rfl⟩
theorem PhaseTells : rampartlaw19_PhaseTells.Pure := by
  intro s r c hs hc
  obtain ⟨x, x1, x2⟩ := next_eq s c r
  obtain ⟨y, y1, y2⟩ := name_eq s
  obtain ⟨z, z1, z2⟩ := sure_eq s
  obtain ⟨u, u1, u2⟩ := reopens_eq s c
  refine ⟨60, ?_⟩
  unfold rampartlaw19_PhaseTells.f
  rw [x1, x2, y1, y2, z1, z2, u1, u2, known]
  simp
end Go.Proofs.Ytaemgicmbnmecaa.Pure
