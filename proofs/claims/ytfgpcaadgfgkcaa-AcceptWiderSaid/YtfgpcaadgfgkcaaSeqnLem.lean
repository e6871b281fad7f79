/- Plain laws of the numbers modulo 2^32: what the printed functions of seqn and of its reference come to. No conditions but the numbers' own bounds. -/
import Derived.Test.YtfgpcaadgfgkcaaPAllx1
import Derived.Test.YtfgpcaadgfgkcaaPAllx3
import Derived.Test.YtfgpcaadgfgkcaaPAllx4
import Derived.Test.YtfgpcaadgfgkcaaPAllx7
namespace Go.Proofs.Ytfgpcaadgfgkcaa.SeqnLem
open Go.RowKit Go.Proofs.Ytfgpcaadgfgkcaa.PAll Go.Proofs.YtfgpcaadgfgkcaaW.PrintWords Go.Proofs.YtfgpcaadgfgkcaaW.PrintLast

/-- How far it is from a to b. -/
def G (a b : Int) : Int := if (b - a) % 4294967296 ≥ 2147483648 then (b - a) % 4294967296 - 4294967296 else (b - a) % 4294967296

theorem u32_b {a : Int} (h : (Lit.int .u32 a).wf = true) : 0 ≤ a ∧ a ≤ 4294967295 := by
  simp only [Lit.wf, Bool.and_eq_true, decide_eq_true_eq] at h; exact h
theorem u16_b {a : Int} (h : (Lit.int .u16 a).wf = true) : 0 ≤ a ∧ a ≤ 65535 := by
  simp only [Lit.wf, Bool.and_eq_true, decide_eq_true_eq] at h; exact h
theorem u8_b {a : Int} (h : (Lit.int .u8 a).wf = true) : 0 ≤ a ∧ a ≤ 255 := by
  simp only [Lit.wf, Bool.and_eq_true, decide_eq_true_eq] at h; exact h
theorem i32_b {a : Int} (h : (Lit.int .i32 a).wf = true) : -2147483648 ≤ a ∧ a ≤ 2147483647 := by
  simp only [Lit.wf, Bool.and_eq_true, decide_eq_true_eq] at h; exact h
theorem i64_b {a : Int} (h : (Lit.int .i64 a).wf = true) : -9223372036854775808 ≤ a ∧ a ≤ 9223372036854775807 := by
  simp only [Lit.wf, Bool.and_eq_true, decide_eq_true_eq] at h; exact h
theorem w64 {a : Int} (h : -9223372036854775808 ≤ a ∧ a ≤ 9223372036854775807) : wrap64 a = a := by unfold wrap64; omega
theorem gg (a b : Int) : wrap64 (wrap32 ((b - a) % 4294967296)) = G a b := by
  unfold G wrap64 wrap32
  split <;> omega
theorem gap_f (a b : Int) : seqn_Gap.f a b = some (G a b) := by
  unfold seqn_Gap.f seqn_num_to.f
  rw [Option.bind_some, gg]
theorem before_f (a b : Int) : seqn_Before.f a b = some (decide (0 < G a b)) := by
  unfold seqn_Before.f
  rw [gg]
theorem later_f (a b : Int) : seqn_Later.f a b = some (if 0 < G a b then b else a) := by
  unfold seqn_Later.f
  rw [before_f, Option.bind_some]
  by_cases h : 0 < G a b
  · simp [h]
  · simp [h]
theorem step_f (a n : Int) : seqn_Step.f a n = some ((a + n) % 4294967296) := by
  unfold seqn_Step.f
  congr 1
  omega
theorem tmod32 (a : Int) : Int.tmod a 4294967296 = if 0 ≤ a then a % 4294967296 else -((-a) % 4294967296) := by
  split
  · rename_i h
    exact Int.tmod_eq_emod_of_nonneg h
  · rename_i h
    have : Int.tmod a 4294967296 = -Int.tmod (-a) 4294967296 := by rw [Int.neg_tmod]; omega
    rw [this, Int.tmod_eq_emod_of_nonneg (by omega)]
theorem mod_f {a : Int} : rampartref03_Mod.f a = some (a % 4294967296) := by
  unfold rampartref03_Mod.f
  congr 1
  rw [tmod32 a, w64 (by split <;> omega), tmod32]
  split <;> split <;> omega
theorem rgap_f {a b : Int} (ha : 0 ≤ a ∧ a ≤ 4294967295) (hb : 0 ≤ b ∧ b ≤ 4294967295) : rampartref03_Gap.f a b = some (G a b) := by
  unfold rampartref03_Gap.f
  rw [w64 (a := a) (by omega), w64 (a := b) (by omega), w64 (by omega), mod_f, Option.bind_some]
  unfold G
  split
  · rw [w64 (by omega)]
  · rfl
theorem rbefore_f {a b : Int} (ha : 0 ≤ a ∧ a ≤ 4294967295) (hb : 0 ≤ b ∧ b ≤ 4294967295) : rampartref03_Before.f a b = some (decide (0 < G a b)) := by
  unfold rampartref03_Before.f
  rw [rgap_f ha hb]; rfl
theorem rupto_f {a b : Int} (ha : 0 ≤ a ∧ a ≤ 4294967295) (hb : 0 ≤ b ∧ b ≤ 4294967295) : rampartref03_Upto.f a b = some (decide (0 ≤ G a b)) := by
  unfold rampartref03_Upto.f
  rw [rgap_f ha hb]; rfl
theorem rlater_f {a b : Int} (ha : 0 ≤ a ∧ a ≤ 4294967295) (hb : 0 ≤ b ∧ b ≤ 4294967295) : rampartref03_Later.f a b = some (if 0 < G a b then b else a) := by
  unfold rampartref03_Later.f
  rw [rbefore_f ha hb, Option.bind_some]
  by_cases h : 0 < G a b
  · simp [h]
  · simp [h]
theorem rstep_f {a n : Int} (ha : 0 ≤ a ∧ a ≤ 4294967295) : rampartref03_Step.f a n = some ((a + n) % 4294967296) := by
  unfold rampartref03_Step.f
  rw [mod_f, Option.bind_some, w64 (a := a) (by omega), w64 (by omega), mod_f, Option.bind_some]
  congr 1
  omega
end Go.Proofs.Ytfgpcaadgfgkcaa.SeqnLem
