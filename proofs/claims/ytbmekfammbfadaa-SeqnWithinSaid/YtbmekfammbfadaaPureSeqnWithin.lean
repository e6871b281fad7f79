/- Numbers that are within are from the first one on, one behind the other, up to the size; no condition. -/
import Derived.Test.YtbmekfammbfadaaPAllx2
import Derived.Test.YtbmekfammbfadaaPAllx4
import Derived.Test.YtbmekfammbfadaaSeqnLem
namespace Go.Proofs.Ytbmekfammbfadaa.Pure
open Go.RowKit Go.Proofs.Ytbmekfammbfadaa.PAll Go.Proofs.YtbmekfammbfadaaW.PrintWords Go.Proofs.YtbmekfammbfadaaW.PrintLast Go.Proofs.Ytbmekfammbfadaa.SeqnLem
theorem known03 : rampartlaw03_known.f = some true := by decide +kernel
theorem SeqnWithin : rampartlaw03_SeqnWithin.Pure := by
  intro a s n ha hs hn
  have ha := u32_b ha
  have hs := u16_b hs
  have hn := u16_b hn
  unfold rampartlaw03_SeqnWithin.f
  rw [w64 (a := n) (by omega), w64 (a := s) (by omega), w64 (by omega)]
  simp only [step_f, within_f, known03, Option.bind_some]
  rw [show ((a + n) % 4294967296 - a) % 4294967296 = n by omega, show ((a + (-1 - n)) % 4294967296 - a) % 4294967296 = 4294967295 - n by omega]
  rw [decide_eq_false (p := 4294967295 - n < s) (by omega), decide_eq_true (p := 4294967295 - n < 4294967296) (by omega), decide_eq_false (p := n < 0) (by omega)]
  simp
end Go.Proofs.Ytbmekfammbfadaa.Pure
