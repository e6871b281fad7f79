/- Plain laws of what is wrong of a segment: program and reference come to the same; what stays fine. No conditions but those named. -/
import Derived.Test.YtfgpcaadgfgkcaaAcc
namespace Go.Proofs.Ytfgpcaadgfgkcaa.AccLem
open Go.RowKit Go.Proofs.YtfgpcaadgfgkcaaW.PrintWords Go.Proofs.Ytfgpcaadgfgkcaa.SeqnLem Go.Proofs.Ytfgpcaadgfgkcaa.Edge Go.Proofs.Ytfgpcaadgfgkcaa.Exec Go.Proofs.Ytfgpcaadgfgkcaa.Side Go.Proofs.Ytfgpcaadgfgkcaa.Dig Go.Proofs.Ytfgpcaadgfgkcaa.Win Go.Proofs.Ytfgpcaadgfgkcaa.WinLem Go.Proofs.Ytfgpcaadgfgkcaa.Acc
theorem rwhy_eq (s r : Sd) (g : Sg) : rwhyF s r g = whyF s r g := by
  unfold rwhyF whyF farF oldF unsentF staleF tellsF
  rw [bits_ne16]
  generalize decide (G s.max (EndS g) > 1) = a1
  generalize decide (G (EndS g) s.fin > IntKind.i64.wrap (r.win + 1)) = a2
  generalize decide (Go.bits .and .i64 g.flags 16 > 0) = a3
  generalize decide (0 < G r.fin g.ack) = a4
  generalize decide (0 < G r.fin (Last g)) = a5
  generalize decide (G g.ack r.fin > IntKind.i64.wrap (s.win + 1)) = a6
  generalize s.on = a7
  generalize r.on = a8
  cases a7 <;> cases a8 <;> cases a3 <;> cases a1 <;> cases a2 <;> cases a4 <;> cases a5 <;> cases a6 <;> rfl
theorem why_zero (s r : Sd) (g : Sg) : whyF s r g = 0 ↔ farF s r g = false ∧ oldF s r g = false ∧ unsentF s r g = false ∧ staleF s r g = false := by
  unfold whyF
  cases farF s r g <;> cases oldF s r g <;> cases unsentF s r g <;> cases staleF s r g <;> simp
/-- Wider is fine, too. -/
theorem wider (s r : Sd) (g : Sg) (n : Int) (h0 : 0 ≤ n ∧ n ≤ 65535) (hs : 0 ≤ s.win ∧ s.win ≤ 536870912) (hr : 0 ≤ r.win ∧ r.win ≤ 536870912) (hso : s.on = true) (hro : r.on = true) (hw : whyF s r g = 0) (hg : ¬ G s.max (EndS g) < -1073741824) :
    whyF { s with max := IntKind.u32.wrap (s.max + n), win := IntKind.i64.wrap (s.win + n) } { r with win := IntKind.i64.wrap (r.win + n) } g = 0 := by
  rw [why_zero] at hw ⊢
  obtain ⟨h1, h2, h3, h4⟩ := hw
  unfold farF oldF unsentF staleF tellsF at *
  simp only [wr64 (show -9223372036854775808 ≤ s.win + n ∧ s.win + n ≤ 9223372036854775807 by omega), wr64 (show -9223372036854775808 ≤ r.win + n ∧ r.win + n ≤ 9223372036854775807 by omega), wr32] at *
  rw [wr64 (show -9223372036854775808 ≤ r.win + 1 ∧ r.win + 1 ≤ 9223372036854775807 by omega)] at h2
  rw [wr64 (show -9223372036854775808 ≤ s.win + 1 ∧ s.win + 1 ≤ 9223372036854775807 by omega)] at h4
  rw [wr64 (show -9223372036854775808 ≤ r.win + n + 1 ∧ r.win + n + 1 ≤ 9223372036854775807 by omega), wr64 (show -9223372036854775808 ≤ s.win + n + 1 ∧ s.win + n + 1 ≤ 9223372036854775807 by omega)]
  simp only [hso, hro, cond_true] at h1 h2 h3 h4 ⊢
  rw [decide_eq_false_iff_not] at h1 h2
  refine ⟨decide_eq_false ?_, decide_eq_false (by omega), h3, ?_⟩
  · unfold G at *
    omega
  · cases ha : decide (Go.bits .and .i64 g.flags 16 > 0)
    · rfl
    · rw [ha, cond_true, decide_eq_false_iff_not] at h4
      rw [cond_true]
      exact decide_eq_false (by omega)
/-- What was fine, and was noted, is fine again. -/
theorem again (s r : Sd) (g : Sg) (hs : 0 ≤ s.win ∧ s.win ≤ 1073741824) (hr : 0 ≤ r.win ∧ r.win ≤ 1073741824) (hw : whyF s r g = 0) : whyF (noteF s r g).1 (noteF s r g).2 g = 0 := by
  rw [why_zero] at hw ⊢
  obtain ⟨h1, h2, h3, h4⟩ := hw
  rw [note_eq]
  have hb := Shift_bd g.win s.scale (decide (Syn g.flags))
  have hm : s.win ≤ mx (mx s.win 1) (Shift g.win s.scale (decide (Syn g.flags))) ∧ mx (mx s.win 1) (Shift g.win s.scale (decide (Syn g.flags))) ≤ 1099511627776 := by
    refine ⟨Int.le_trans (mx_l _ _) (mx_l _ _), ?_⟩
    unfold mx
    repeat' split <;> omega
  generalize mx (mx s.win 1) (Shift g.win s.scale (decide (Syn g.flags))) = W at hm
  unfold farF oldF unsentF staleF tellsF at *
  simp only
  rw [wr64 (show -9223372036854775808 ≤ r.win + 1 ∧ r.win + 1 ≤ 9223372036854775807 by omega)] at h2 ⊢
  rw [wr64 (show -9223372036854775808 ≤ s.win + 1 ∧ s.win + 1 ≤ 9223372036854775807 by omega)] at h4
  rw [wr64 (show -9223372036854775808 ≤ W + 1 ∧ W + 1 ≤ 9223372036854775807 by omega)]
  refine ⟨h1, ?_, h3, ?_⟩
  · cases ho : s.on
    · rfl
    · rw [ho, cond_true, decide_eq_false_iff_not] at h2
      rw [cond_true]
      refine decide_eq_false ?_
      unfold later
      split
      · rw [G_self]; omega
      · exact h2
  · cases ho : r.on
    · rfl
    · rw [ho, cond_true] at h4
      rw [cond_true]
      cases ha : decide (Go.bits .and .i64 g.flags 16 > 0)
      · rfl
      · rw [ha, cond_true, decide_eq_false_iff_not] at h4
        rw [cond_true]
        exact decide_eq_false (by omega)
end Go.Proofs.Ytfgpcaadgfgkcaa.AccLem
