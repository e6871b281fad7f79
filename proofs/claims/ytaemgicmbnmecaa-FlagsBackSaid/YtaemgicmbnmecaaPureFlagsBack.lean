/- What is shown is read as it was; what is read is shown as it was: for all flags and every text; no condition. -/
import Derived.Test.YtaemgicmbnmecaaPAllx7
import Derived.Test.YtaemgicmbnmecaaFlagsLem
namespace Go.Proofs.Ytaemgicmbnmecaa.Pure
open Go.RowKit Go.Proofs.Ytaemgicmbnmecaa.PAll Go.Proofs.YtaemgicmbnmecaaW.PrintWords Go.Proofs.YtaemgicmbnmecaaW.PrintLast
set_option linter.unusedVariables false
set_option linter.unusedSimpArgs false
open Go.Proofs.Ytaemgicmbnmecaa.FlagsLem
theorem FlagsBack : rampartlaw10_FlagsBack.Pure := by
  intro n s hn hs
  have hn := u8_b hn
  refine ⟨8 * s.size + 200, ?_⟩
  unfold rampartlaw10_FlagsBack.f
  rw [known_up (by omega), tm64 hn]
  by_cases hl : (s.size : Int) > 100
  · rw [if_pos hl]; rfl
  · rw [if_neg hl, show_up (by omega) (by omega) (by omega), Option.bind_some]
    rw [show 8 * s.size + 200 = 60 + (8 * s.size + 140) by omega, up (g := fun k => flags_Parse.f k (Sh ((n.toNat % 64 : Nat) : Int))) (flags_Parse.mono _) (back_in (by omega) (by omega))]
    rw [show 60 + (8 * s.size + 140) = 8 * s.size + 200 by omega]
    rcases parse_is s (by omega) (k := 8 * s.size + 200) (by omega) with ⟨m, h0, h1, rfl, e⟩ | ⟨h, e⟩
    · rw [e]
      simp [show_up h0 h1 (k := 8 * (Sh m).size + 200) (by omega)]
    · rw [e]
      simp
end Go.Proofs.Ytaemgicmbnmecaa.Pure
