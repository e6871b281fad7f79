/- A number without bounds between 2^32 and 2^59 is found again from its last 32 bits and a number that is near; no condition. -/
import Derived.Test.YtbmekfammbfadaaPAllx2
import Derived.Test.YtbmekfammbfadaaPAllx4
import Derived.Test.YtbmekfammbfadaaSeqnLem
namespace Go.Proofs.Ytbmekfammbfadaa.Pure
open Go.RowKit Go.Proofs.Ytbmekfammbfadaa.PAll Go.Proofs.YtbmekfammbfadaaW.PrintWords Go.Proofs.YtbmekfammbfadaaW.PrintLast Go.Proofs.Ytbmekfammbfadaa.SeqnLem
theorem known03 : rampartlaw03_known.f = some true := by decide +kernel
theorem SeqnNear : rampartlaw03_SeqnNear.Pure := by
  intro a n ha hn
  have ha := i64_b ha
  have hn := i32_b hn
  refine ⟨1, ?_⟩
  unfold rampartlaw03_SeqnNear.f
  by_cases hl : a < 4294967296
  · rw [if_pos hl]
    simp [rampartlaw03_SeqnNear.j0, known03]
  · rw [if_neg hl]
    simp only [rampartlaw03_SeqnNear.j0]
    by_cases hh : a > 576460752303423488
    · simp [hh, known03]
    · have e1 : G a ((a + n) % 4294967296) = n := by unfold G; split <;> omega
      have e2 : G a (a % 4294967296) = 0 := by unfold G; split <;> omega
      rw [w64 (a := n) (by omega), w64 (a := a + n) (by omega)]
      simp [hh, near_f, e1, e2, known03, show ¬ a < 0 by omega, show ¬ (1152921504606846976 : Int) < a by omega]
end Go.Proofs.Ytbmekfammbfadaa.Pure
