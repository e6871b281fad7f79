/- Of two numbers that are not 2^31 apart just one is before the other, or they are the same; all are so anywhere; no condition. -/
import Derived.Test.YtbmekfammbfadaaPAllx2
import Derived.Test.YtbmekfammbfadaaPAllx3
import Derived.Test.YtbmekfammbfadaaSeqnLem
namespace Go.Proofs.Ytbmekfammbfadaa.Pure
open Go.RowKit Go.Proofs.Ytbmekfammbfadaa.PAll Go.Proofs.YtbmekfammbfadaaW.PrintWords Go.Proofs.YtbmekfammbfadaaW.PrintLast Go.Proofs.Ytbmekfammbfadaa.SeqnLem
theorem known03 : rampartlaw03_known.f = some true := by decide +kernel
theorem SeqnOrder : rampartlaw03_SeqnOrder.Pure := by
  intro a b n ha hb hn
  have ha := u32_b ha
  have hb := u32_b hb
  have hn := i32_b hn
  have h1 : G ((a + wrap64 n) % 4294967296) ((b + wrap64 n) % 4294967296) = G a b := by
    unfold G
    rw [show ((b + wrap64 n) % 4294967296 - (a + wrap64 n) % 4294967296) % 4294967296 = (b - a) % 4294967296 by omega]
  have h2 : rampartlaw03_SeqnOrder.j0 1 a b false = some true := by
    simp only [rampartlaw03_SeqnOrder.j0, gap_f, before_f, upto_f, later_f, known03, Option.bind_some]
    by_cases hm : G a b = -2147483648
    · have h3 : ¬ 0 < G a b := by omega
      have h4 : ¬ 0 < G b a := by unfold G at hm ⊢; split at hm <;> split <;> omega
      simp [hm, h4]
    · rcases Int.lt_trichotomy (G a b) 0 with h | h | h
      · have h4 : 0 < G b a := by unfold G at hm h ⊢; split at hm <;> split at h <;> split <;> omega
        simp [hm, h4, show ¬ 0 ≤ G a b by omega, show ¬ 0 < G a b by omega]
      · have h4 : G b a = 0 := by unfold G at h ⊢; split at h <;> split <;> omega
        have h5 : a = b := by unfold G at h; split at h <;> omega
        subst h5
        simp [h]
      · have h4 : ¬ 0 < G b a := by unfold G at hm h ⊢; split at hm <;> split at h <;> split <;> omega
        simp [hm, h4, h, show 0 ≤ G a b by omega]
  refine ⟨1, ?_⟩
  unfold rampartlaw03_SeqnOrder.f
  simp [step_f, before_f, upto_f, h1, h2]
end Go.Proofs.Ytbmekfammbfadaa.Pure
