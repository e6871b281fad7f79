/- A step as far as the gap leads there, and the gap of a step of 32 bits is that step; no condition. -/
import Derived.Test.YtbmekfammbfadaaPAllx2
import Derived.Test.YtbmekfammbfadaaSeqnLem
namespace Go.Proofs.Ytbmekfammbfadaa.Pure
open Go.RowKit Go.Proofs.Ytbmekfammbfadaa.PAll Go.Proofs.YtbmekfammbfadaaW.PrintWords Go.Proofs.YtbmekfammbfadaaW.PrintLast Go.Proofs.Ytbmekfammbfadaa.SeqnLem
theorem known03 : rampartlaw03_known.f = some true := by decide +kernel
theorem SeqnBack : rampartlaw03_SeqnBack.Pure := by
  intro a b n ha hb hn
  have ha := u32_b ha
  have hb := u32_b hb
  have hn := i32_b hn
  have h1 : (a + G a b) % 4294967296 = b := by unfold G; split <;> omega
  have h2 : G a ((a + wrap64 n) % 4294967296) = wrap64 n := by rw [w64 (by omega)]; unfold G; split <;> omega
  unfold rampartlaw03_SeqnBack.f
  simp [gap_f, step_f, h1, h2, known03]
end Go.Proofs.Ytbmekfammbfadaa.Pure
