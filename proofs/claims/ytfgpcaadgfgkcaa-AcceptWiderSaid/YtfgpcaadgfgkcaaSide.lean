/- A side as one Lean record; contracts of the functions on numbers modulo 2^32 over it. No conditions but those that each theorem names. -/
import Derived.Test.YtfgpcaadgfgkcaaEdge
import Derived.Test.YtfgpcaadgfgkcaaWorld
import Derived.Test.YtfgpcaadgfgkcaaExec
import Derived.Test.YtfgpcaadgfgkcaaPAllx1
import Derived.Test.YtfgpcaadgfgkcaaPAllx3
import Derived.Test.YtfgpcaadgfgkcaaPAllx4
import Derived.Test.YtfgpcaadgfgkcaaPAllx7
namespace Go.Proofs.Ytfgpcaadgfgkcaa.Side
open Go.RowKit Go.Proofs.Ytfgpcaadgfgkcaa.PAll Go.Proofs.YtfgpcaadgfgkcaaW.PrintWords Go.Proofs.YtfgpcaadgfgkcaaW.PrintLast Go.Proofs.Ytfgpcaadgfgkcaa.SeqnLem Go.Proofs.Ytfgpcaadgfgkcaa.Edge Go.Proofs.Ytfgpcaadgfgkcaa.Exec Go.Proofs.Ytfgpcaadgfgkcaa.World_
/-- A side. -/
structure Sd where
  on : Bool
  fin : Int
  max : Int
  ack : Int
  has : Bool
  win : Int
  scale : Int
def Sd.V (s : Sd) : Value := .agg #[.bool s.on, .int .u32 s.fin, .int .u32 s.max, .int .u32 s.ack, .bool s.has, .int .i64 s.win, .int .i64 s.scale]
def Sd.eq (a b : Sd) : Bool := a.on == b.on && (a.fin == b.fin && (a.max == b.max && (a.ack == b.ack && (a.has == b.has && (a.win == b.win && (a.scale == b.scale))))))
theorem Sd.eq_iff (a b : Sd) : Sd.eq a b = true ↔ a = b := by
  obtain ⟨a1, a2, a3, a4, a5, a6, a7⟩ := a
  obtain ⟨b1, b2, b3, b4, b5, b6, b7⟩ := b
  simp [Sd.eq]
/-- Its numbers are of their kinds. -/
structure Sd.Wf (s : Sd) : Prop where
  fin : 0 ≤ s.fin ∧ s.fin ≤ 4294967295
  max : 0 ≤ s.max ∧ s.max ≤ 4294967295
  ack : 0 ≤ s.ack ∧ s.ack ≤ 4294967295
  win : -9223372036854775808 ≤ s.win ∧ s.win ≤ 9223372036854775807
  scale : -9223372036854775808 ≤ s.scale ∧ s.scale ≤ 9223372036854775807
theorem _root_.Go.Proofs.Ytfgpcaadgfgkcaa.Edge.Sg.Ok.keep {s : Sg} {A : Option Addr} {c : Nat} {w w' : World} (h : s.Ok A c w) (hk : Kept [] w w') : s.Ok A c w' := h.below hk.below
theorem ok_nil {s : Sg} {w : World} (h : s.blocks = []) : s.Ok none 0 w := by
  unfold Sg.Ok
  rw [h]
  exact ⟨Kd.C_nil _ _, Nat.le_refl _⟩
section
variable {w : World}
theorem c_later (a b : Int) : Calls Try.prog 47 #[.int .u32 a, .int .u32 b] w fun e w' => e = .returned (.int .u32 (later a b)) ∧ Below w.heap.size w w' := dB (seqn_Later.calls a b _ w (later_f a b))
theorem c_gap (a b : Int) : Calls Try.prog 65 #[.int .u32 a, .int .u32 b] w fun e w' => e = .returned (.int .i64 (G a b)) ∧ Below w.heap.size w w' := dB (seqn_Gap.calls a b _ w (gap_f a b))
theorem c_before (a b : Int) : Calls Try.prog 61 #[.int .u32 a, .int .u32 b] w fun e w' => e = .returned (.bool (decide (0 < G a b))) ∧ Below w.heap.size w w' := dB (seqn_Before.calls a b _ w (before_f a b))
theorem c_step (a n : Int) : Calls Try.prog 62 #[.int .u32 a, .int .i64 n] w fun e w' => e = .returned (.int .u32 ((a + n) % 4294967296)) ∧ Below w.heap.size w w' := dB (seqn_Step.calls a n _ w (step_f a n))
theorem c_rgap {a b : Int} (ha : 0 ≤ a ∧ a ≤ 4294967295) (hb : 0 ≤ b ∧ b ≤ 4294967295) : Calls Try.prog 23 #[.int .u32 a, .int .u32 b] w fun e w' => e = .returned (.int .i64 (G a b)) ∧ Below w.heap.size w w' := dB (rampartref03_Gap.calls a b _ w (rgap_f ha hb))
theorem c_rbefore {a b : Int} (ha : 0 ≤ a ∧ a ≤ 4294967295) (hb : 0 ≤ b ∧ b ≤ 4294967295) : Calls Try.prog 38 #[.int .u32 a, .int .u32 b] w fun e w' => e = .returned (.bool (decide (0 < G a b))) ∧ Below w.heap.size w w' := dB (rampartref03_Before.calls a b _ w (rbefore_f ha hb))
theorem c_rupto {a b : Int} (ha : 0 ≤ a ∧ a ≤ 4294967295) (hb : 0 ≤ b ∧ b ≤ 4294967295) : Calls Try.prog 36 #[.int .u32 a, .int .u32 b] w fun e w' => e = .returned (.bool (decide (0 ≤ G a b))) ∧ Below w.heap.size w w' := dB (rampartref03_Upto.calls a b _ w (rupto_f ha hb))
theorem c_rlater {a b : Int} (ha : 0 ≤ a ∧ a ≤ 4294967295) (hb : 0 ≤ b ∧ b ≤ 4294967295) : Calls Try.prog 51 #[.int .u32 a, .int .u32 b] w fun e w' => e = .returned (.int .u32 (later a b)) ∧ Below w.heap.size w w' := dB (rampartref03_Later.calls a b _ w (rlater_f ha hb))
theorem c_ragree (a b : Int) : Calls Try.prog 54 #[.int .i64 a, .int .i64 b] w fun e w' => e = .returned (.tuple #[.int .i64 (AgreeA a b), .int .i64 (AgreeA b a)]) ∧ Below w.heap.size w w' := rampartref16_Agree.calls a b _ _ w (ragree_f a b)
theorem EndS_bd (s : Sg) : 0 ≤ EndS s ∧ EndS s ≤ 4294967295 := by unfold EndS; omega
theorem Grant_bd (s : Sg) (n : Int) : 0 ≤ Grant s n ∧ Grant s n ≤ 4294967295 := by unfold Grant; omega
end
end Go.Proofs.Ytfgpcaadgfgkcaa.Side
