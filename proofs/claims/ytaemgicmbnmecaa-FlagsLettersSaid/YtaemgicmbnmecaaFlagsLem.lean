/- Plain laws of flags as text: each flags' text is read back, and what a text reads as. (A part of the laws of layer 10.) -/
import Derived.Test.YtaemgicmbnmecaaPAllx3
import Derived.Test.YtaemgicmbnmecaaPAllx4
import Derived.Test.YtaemgicmbnmecaaPAllx5
import Derived.Test.YtaemgicmbnmecaaPAllx6
namespace Go.Proofs.Ytaemgicmbnmecaa.FlagsLem
open Go.RowKit Go.Proofs.Ytaemgicmbnmecaa.PAll Go.Proofs.YtaemgicmbnmecaaW.PrintWords Go.Proofs.YtaemgicmbnmecaaW.PrintLast
set_option linter.unusedVariables false
set_option linter.unusedSimpArgs false
theorem u8_b {a : Int} (h : (Lit.int .u8 a).wf = true) : 0 ≤ a ∧ a ≤ 255 := by
  simp only [Lit.wf, Bool.and_eq_true, decide_eq_true_eq] at h; exact h
theorem w64 {a : Int} (h : -9223372036854775808 ≤ a ∧ a ≤ 9223372036854775807) : wrap64 a = a := by unfold wrap64; omega
theorem tm64 {a : Int} (h : 0 ≤ a ∧ a ≤ 255) : Int.tmod (wrap64 a) 64 = ((a.toNat % 64 : Nat) : Int) := by
  rw [w64 (by omega), Int.tmod_eq_emod_of_nonneg h.1]
  obtain ⟨n, rfl⟩ := Int.eq_ofNat_of_zero_le h.1
  rw [Int.toNat_natCast]
  rfl
theorem up {α : Type} {g : Nat → Option α} (hm : ∀ k, LeO (g k) (g (k + 1))) {v : α} {a : Nat} (h : g a = some v) : ∀ j, g (a + j) = some v
  | 0 => h
  | j + 1 => hm (a + j) v (up hm h j)
def Sh (n : Int) : ByteArray := (flags_Show.f 60 n).getD ByteArray.empty
theorem all_show : ∀ i : Fin 64, flags_Show.f 60 (i.1 : Int) = some (Sh (i.1 : Int)) ∧ rampartref10_Show.f (i.1 : Int) = some (Sh (i.1 : Int)) := by decide +kernel
theorem all_back : ∀ i : Fin 64, flags_Parse.f 60 (Sh (i.1 : Int)) = some ((i.1 : Int), true) := by decide +kernel
theorem all_or : ∀ (n : Fin 64) (j : Fin 6), 0 ≤ Go.bits .or .i64 (n.1 : Int) (shl .i64 1 (j.1 : Int)) ∧ Go.bits .or .i64 (n.1 : Int) (shl .i64 1 (j.1 : Int)) ≤ 63 := by decide +kernel
theorem known : rampartlaw10_known.f 60 = some true := by decide +kernel
theorem show_in {n : Int} (h0 : 0 ≤ n) (h1 : n ≤ 63) : flags_Show.f 60 n = some (Sh n) ∧ rampartref10_Show.f n = some (Sh n) := by
  have := all_show ⟨n.toNat, by omega⟩
  rw [show ((n.toNat : Nat) : Int) = n by omega] at this
  exact this
theorem back_in {n : Int} (h0 : 0 ≤ n) (h1 : n ≤ 63) : flags_Parse.f 60 (Sh n) = some (n, true) := by
  have := all_back ⟨n.toNat, by omega⟩
  rw [show ((n.toNat : Nat) : Int) = n by omega] at this
  exact this
theorem sh_inj {n m : Int} (h0 : 0 ≤ n) (h1 : n ≤ 63) (g0 : 0 ≤ m) (g1 : m ≤ 63) (h : Sh n = Sh m) : n = m := by
  have h2 := back_in h0 h1
  rw [h, back_in g0 g1] at h2
  injection h2 with h2
  injection h2 with h2
  exact h2.symm
theorem toL {a b : ByteArray} : a.toList = b.toList ↔ a = b := ⟨fun h => by rw [ByteArray.toList_eq, ByteArray.toList_eq] at h; exact Go.WideShapes.bytes_inj h, fun h => h ▸ rfl⟩
/-- The inner loop goes on with flags within 0 and 63. -/
theorem inner (s : ByteArray) (x6 : Int) (h6 : 0 ≤ x6) (h7 : x6 < s.size) (x9 x10 : Int) (k : Nat) (d : Nat) : ∀ (j : Nat) (n last : Int), j + d = 6 → 0 ≤ n → n ≤ 63 →
    ∃ n' last' : Int, 0 ≤ n' ∧ n' ≤ 63 ∧ flags_Parse.l1 (k + d + 1) s n last x6 x9 x10 j = flags_Parse.l0 k s n' last' x9 (wrap64 (x10 + 1)) := by
  induction d with
  | zero =>
    intro j n last hj h0 h1
    refine ⟨n, last, h0, h1, ?_⟩
    obtain rfl : j = 6 := by omega
    rw [show k + 0 + 1 = k + 1 from rfl, flags_Parse.l1, if_neg (by decide)]
  | succ d ih =>
    intro j n last hj h0 h1
    have e : wrap64 ((j : Int) + 1) = ((j + 1 : Nat) : Int) := by rw [w64 (by omega)]; omega
    rw [show k + (d + 1) + 1 = (k + d + 1) + 1 from rfl, flags_Parse.l1, if_pos (by omega), if_pos (by omega), if_pos h6, if_pos h7, e]
    split
    · split
      · have := all_or ⟨n.toNat, by omega⟩ ⟨j, by omega⟩
        simp only at this
        rw [show ((n.toNat : Nat) : Int) = n by omega] at this
        exact ih (j + 1) _ _ (by omega) this.1 this.2
      · exact ih (j + 1) _ _ (by omega) h0 h1
    · exact ih (j + 1) _ _ (by omega) h0 h1
theorem outer (s : ByteArray) (hs : s.size ≤ 1000000) (d : Nat) : ∀ (i : Nat) (n last : Int), i + d = s.size → 0 ≤ n → n ≤ 63 →
    ∃ n' : Int, 0 ≤ n' ∧ n' ≤ 63 ∧ flags_Parse.l0 (8 * d + 61) s n last (s.size : Int) i = if Sh n' = s then some (n', true) else some (0, false) := by
  induction d with
  | zero =>
    intro i n last hi h0 h1
    refine ⟨n, h0, h1, ?_⟩
    rw [show 8 * 0 + 61 = 60 + 1 from rfl, flags_Parse.l0, if_neg (by omega), (show_in h0 h1).1, Option.bind_some]
    by_cases h : Sh n = s
    · rw [if_pos (toL.2 h), if_pos h]
    · rw [if_neg (fun z => h (toL.1 z)), if_neg h]
  | succ d ih =>
    intro i n last hi h0 h1
    rw [show 8 * (d + 1) + 61 = (8 * d + 61 + 6 + 1) + 1 by omega, flags_Parse.l0, if_pos (by omega)]
    obtain ⟨n', last', a0, a1, e⟩ := inner s (i : Int) (by omega) (by omega) (s.size : Int) (i : Int) (8 * d + 61) 6 0 n last (by omega) h0 h1
    have e' : wrap64 ((i : Int) + 1) = ((i + 1 : Nat) : Int) := by rw [w64 (by omega)]; omega
    rw [e'] at e
    obtain ⟨m, b0, b1, q⟩ := ih (i + 1) n' last' (by omega) a0 a1
    refine ⟨m, b0, b1, ?_⟩
    rw [← q, ← e]
    rfl
theorem parse_f (s : ByteArray) (hs : s.size ≤ 1000000) : ∃ n' : Int, 0 ≤ n' ∧ n' ≤ 63 ∧ flags_Parse.f (8 * s.size + 61) s = if Sh n' = s then some (n', true) else some (0, false) := by
  unfold flags_Parse.f
  exact outer s hs s.size 0 0 (-1) (by omega) (by decide) (by decide)
/-- What a text's flags are. -/
theorem parse_is (s : ByteArray) (hs : s.size ≤ 1000000) {k : Nat} (hk : 8 * s.size + 61 ≤ k) : (∃ m : Int, 0 ≤ m ∧ m ≤ 63 ∧ Sh m = s ∧ flags_Parse.f k s = some (m, true)) ∨ ((∀ m : Int, 0 ≤ m → m ≤ 63 → Sh m ≠ s) ∧ flags_Parse.f k s = some (0, false)) := by
  obtain ⟨j, rfl⟩ : ∃ j, k = 8 * s.size + 61 + j := ⟨k - (8 * s.size + 61), by omega⟩
  by_cases h : ∃ m : Int, 0 ≤ m ∧ m ≤ 63 ∧ Sh m = s
  · obtain ⟨m, h0, h1, rfl⟩ := h
    refine .inl ⟨m, h0, h1, rfl, ?_⟩
    rw [show 8 * (Sh m).size + 61 + j = 60 + (8 * (Sh m).size + 1 + j) by omega]
    exact up (g := fun k => flags_Parse.f k (Sh m)) (flags_Parse.mono _) (back_in h0 h1) _
  · refine .inr ⟨fun m h0 h1 e => h ⟨m, h0, h1, e⟩, ?_⟩
    obtain ⟨n, h0, h1, e⟩ := parse_f s hs
    rw [if_neg (fun z => h ⟨n, h0, h1, z⟩)] at e
    exact up (g := fun k => flags_Parse.f k s) (flags_Parse.mono _) e j
theorem show_up {n : Int} (h0 : 0 ≤ n) (h1 : n ≤ 63) {k : Nat} (hk : 60 ≤ k) : flags_Show.f k n = some (Sh n) := by
  obtain ⟨j, rfl⟩ : ∃ j, k = 60 + j := ⟨k - 60, by omega⟩
  exact up (g := fun k => flags_Show.f k n) (flags_Show.mono _) (show_in h0 h1).1 j
theorem known_up {k : Nat} (hk : 60 ≤ k) : rampartlaw10_known.f k = some true := by
  obtain ⟨j, rfl⟩ : ∃ j, k = 60 + j := ⟨k - 60, by omega⟩
  exact up (g := fun k => rampartlaw10_known.f k) rampartlaw10_known.mono known j
/-- The reference's reading: the first flags that show so. -/
theorem rparse_hit (m : Int) (h0 : 0 ≤ m) (h1 : m ≤ 63) (d : Nat) : ∀ (k i : Nat), (i : Int) + d = m → d < k → rampartref10_Parse.l0 k (Sh m) i = some (m, true) := by
  induction d with
  | zero =>
    intro k i hi hk
    obtain ⟨k, rfl⟩ : ∃ j, k = j + 1 := ⟨k - 1, by omega⟩
    rw [rampartref10_Parse.l0, if_pos (by omega), (show_in (n := (i : Int)) (by omega) (by omega)).2, Option.bind_some, if_pos (toL.2 (by rw [show (i : Int) = m by omega]))]
    rw [show (i : Int) = m by omega]
  | succ d ih =>
    intro k i hi hk
    obtain ⟨k, rfl⟩ : ∃ j, k = j + 1 := ⟨k - 1, by omega⟩
    rw [rampartref10_Parse.l0, if_pos (by omega), (show_in (n := (i : Int)) (by omega) (by omega)).2, Option.bind_some, if_neg (fun z => by have := sh_inj (by omega) (by omega) h0 h1 (toL.1 z); omega), w64 (by omega)]
    exact ih k (i + 1) (by omega) (by omega)
theorem rparse_miss (s : ByteArray) (hs : ∀ m : Int, 0 ≤ m → m ≤ 63 → Sh m ≠ s) (d : Nat) : ∀ (k i : Nat), i + d = 64 → d < k → rampartref10_Parse.l0 k s i = some (0, false) := by
  induction d with
  | zero =>
    intro k i hi hk
    obtain ⟨k, rfl⟩ : ∃ j, k = j + 1 := ⟨k - 1, by omega⟩
    rw [rampartref10_Parse.l0, if_neg (by omega)]
  | succ d ih =>
    intro k i hi hk
    obtain ⟨k, rfl⟩ : ∃ j, k = j + 1 := ⟨k - 1, by omega⟩
    rw [rampartref10_Parse.l0, if_pos (by omega), (show_in (n := (i : Int)) (by omega) (by omega)).2, Option.bind_some, if_neg (fun z => hs _ (by omega) (by omega) (toL.1 z)), w64 (by omega)]
    exact ih k (i + 1) (by omega) (by omega)
end Go.Proofs.Ytaemgicmbnmecaa.FlagsLem
