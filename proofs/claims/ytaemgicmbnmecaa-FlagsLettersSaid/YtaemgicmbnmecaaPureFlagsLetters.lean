/- Two texts of flags that are read to the same are the same; each flag has a letter of its own: for all flags; no condition. -/
import Derived.Test.YtaemgicmbnmecaaPAllx9
import Derived.Test.YtaemgicmbnmecaaFlagsLem
namespace Go.Proofs.Ytaemgicmbnmecaa.Pure
open Go.RowKit Go.Proofs.Ytaemgicmbnmecaa.PAll Go.Proofs.YtaemgicmbnmecaaW.PrintWords Go.Proofs.YtaemgicmbnmecaaW.PrintLast
set_option linter.unusedVariables false
set_option linter.unusedSimpArgs false
open Go.Proofs.Ytaemgicmbnmecaa.FlagsLem
theorem all_or2 : ∀ (n m : Fin 64), 0 ≤ Go.bits .or .i64 (n.1 : Int) (m.1 : Int) ∧ Go.bits .or .i64 (n.1 : Int) (m.1 : Int) ≤ 63 := by decide +kernel
theorem all_dot : ∀ (n : Fin 64), (((n.1 : Int) == 0) == ((Sh (n.1 : Int)).toList == ([46] : List UInt8))) = true := by decide +kernel
theorem FlagsLetters : rampartlaw10_FlagsLetters.Pure := by
  intro a b ha hb
  have ha := u8_b ha
  have hb := u8_b hb
  refine ⟨60, ?_⟩
  unfold rampartlaw10_FlagsLetters.f
  rw [tm64 ha, tm64 hb]
  have hor := all_or2 ⟨a.toNat % 64, by omega⟩ ⟨b.toNat % 64, by omega⟩
  have hdot := all_dot ⟨a.toNat % 64, by omega⟩
  simp only at hor hdot
  have hs : ((Sh ((a.toNat % 64 : Nat) : Int)).toList == (Sh ((b.toNat % 64 : Nat) : Int)).toList) = (((a.toNat % 64 : Nat) : Int) == ((b.toNat % 64 : Nat) : Int)) := by
    rw [Bool.eq_iff_iff, beq_iff_eq, beq_iff_eq, toL]
    exact ⟨fun h => sh_inj (by omega) (by omega) (by omega) (by omega) h, fun h => by rw [h]⟩
  rw [(show_in (n := ((a.toNat % 64 : Nat) : Int)) (by omega) (by omega)).1, (show_in (n := ((b.toNat % 64 : Nat) : Int)) (by omega) (by omega)).1, Option.bind_some, Option.bind_some, (show_in hor.1 hor.2).1, Option.bind_some, back_in hor.1 hor.2, Option.bind_some, known, hs, hdot]
  simp
end Go.Proofs.Ytaemgicmbnmecaa.Pure
