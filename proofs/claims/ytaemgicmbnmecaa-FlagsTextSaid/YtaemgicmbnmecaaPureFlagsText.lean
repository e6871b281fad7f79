/- Any flags as text, and any text's flags, is as the reference says: for every int and every text; no condition. -/
import Derived.Test.YtaemgicmbnmecaaPAllx7
import Derived.Test.YtaemgicmbnmecaaFlagsLem
namespace Go.Proofs.Ytaemgicmbnmecaa.Pure
open Go.RowKit Go.Proofs.Ytaemgicmbnmecaa.PAll Go.Proofs.YtaemgicmbnmecaaW.PrintWords Go.Proofs.YtaemgicmbnmecaaW.PrintLast
set_option linter.unusedVariables false
set_option linter.unusedSimpArgs false
open Go.Proofs.Ytaemgicmbnmecaa.FlagsLem
theorem FlagsText : rampartlaw10_FlagsText.Pure := by
  intro n s hn hs
  refine ⟨8 * s.size + 200, ?_⟩
  unfold rampartlaw10_FlagsText.f
  rw [known_up (by omega)]
  by_cases hl : (s.size : Int) > 100
  · rw [if_pos hl]; rfl
  · rw [if_neg hl]
    obtain ⟨x, hx, hy⟩ : ∃ x, flags_Parse.f (8 * s.size + 200) s = some x ∧ rampartref10_Parse.f (8 * s.size + 200) s = some x := by
      rcases parse_is s (by omega) (k := 8 * s.size + 200) (by omega) with ⟨m, h0, h1, rfl, e⟩ | ⟨h, e⟩
      · exact ⟨_, e, rparse_hit m h0 h1 m.toNat _ 0 (by omega) (by omega)⟩
      · exact ⟨_, e, rparse_miss s h 64 _ 0 (by omega) (by omega)⟩
    obtain ⟨y, hz, hw⟩ : ∃ y, flags_Show.f (8 * s.size + 200) n = some y ∧ rampartref10_Show.f n = some y := by
      by_cases h : n < 0
      · refine ⟨⟨#[]⟩, ?_, by unfold rampartref10_Show.f; rw [if_pos h]⟩
        unfold flags_Show.f
        rw [if_pos h]
        rfl
      · by_cases h2 : 63 < n
        · refine ⟨⟨#[]⟩, ?_, by unfold rampartref10_Show.f; rw [if_neg h, if_pos h2]⟩
          unfold flags_Show.f
          rw [if_neg h, decide_eq_true h2]
          rfl
        · exact ⟨_, show_up (by omega) (by omega) (by omega), (show_in (by omega) (by omega)).2⟩
    rw [hx, hy, hz, hw]
    simp
end Go.Proofs.Ytaemgicmbnmecaa.Pure
