/- The later one of two, and of three that are near, is the same in whatever order they are handed in; no condition. -/
import Derived.Test.YtbmekfammbfadaaPAllx2
import Derived.Test.YtbmekfammbfadaaPAllx4
import Derived.Test.YtbmekfammbfadaaSeqnLem
namespace Go.Proofs.Ytbmekfammbfadaa.Pure
open Go.RowKit Go.Proofs.Ytbmekfammbfadaa.PAll Go.Proofs.YtbmekfammbfadaaW.PrintWords Go.Proofs.YtbmekfammbfadaaW.PrintLast Go.Proofs.Ytbmekfammbfadaa.SeqnLem
theorem known03 : rampartlaw03_known.f = some true := by decide +kernel
theorem SeqnLater : rampartlaw03_SeqnLater.Pure := by
  intro a x y ha hx hy
  have ha := u32_b ha
  have hx := u16_b hx
  have hy := u16_b hy
  unfold rampartlaw03_SeqnLater.f
  rw [w64 (a := x) (by omega), w64 (a := y) (by omega)]
  simp only [step_f, later_f, known03, Option.bind_some]
  obtain ⟨b, hb⟩ : ∃ b, (a + x) % 4294967296 = b := ⟨_, rfl⟩
  rw [hb]
  obtain ⟨c, hc⟩ : ∃ c, (b + y) % 4294967296 = c := ⟨_, rfl⟩
  rw [hc]
  have e1 : (if 0 < G b c then c else b) = c := by split <;> (try rfl); rename_i h; unfold G at h; split at h <;> omega
  rw [e1]
  have e2 : (if 0 < G a c then c else a) = c := by split <;> (try rfl); rename_i h; unfold G at h; split at h <;> omega
  have e3 : (if 0 < G c a then a else c) = c := by split <;> (try rfl); rename_i h; unfold G at h; split at h <;> omega
  have e4 : (if 0 < G c b then b else c) = c := by split <;> (try rfl); rename_i h; unfold G at h; split at h <;> omega
  have e5 : (if 0 < G b a then a else b) = b := by split <;> (try rfl); rename_i h; unfold G at h; split at h <;> omega
  rw [e2, e3, e4, e5]
  simp
end Go.Proofs.Ytbmekfammbfadaa.Pure
