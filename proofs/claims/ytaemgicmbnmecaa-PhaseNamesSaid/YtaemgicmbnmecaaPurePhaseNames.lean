/- The state of any name is as the reference says; each state has a name of its own: for every text and state; no condition. -/
import Derived.Test.YtaemgicmbnmecaaPAllx13
import Derived.Test.YtaemgicmbnmecaaPAllx14
import Derived.Test.YtaemgicmbnmecaaPAllx15
import Derived.Test.YtaemgicmbnmecaaPAllx16
import Derived.Test.YtaemgicmbnmecaaPAllx17
namespace Go.Proofs.Ytaemgicmbnmecaa.Pure
open Go.RowKit Go.Proofs.Ytaemgicmbnmecaa.PAll Go.Proofs.YtaemgicmbnmecaaW.PrintWords Go.Proofs.YtaemgicmbnmecaaW.PrintLast
set_option linter.unusedVariables false
set_option linter.unusedSimpArgs false
theorem known : rampartlaw19_known.f 60 = some true := by decide +kernel
theorem u8_b {a : Int} (h : (Lit.int .u8 a).wf = true) : 0 ≤ a ∧ a ≤ 255 := by
  simp only [Lit.wf, Bool.and_eq_true, decide_eq_true_eq] at h; exact h
theorem w64 {a : Int} (h : -9223372036854775808 ≤ a ∧ a ≤ 9223372036854775807) : wrap64 a = a := by unfold wrap64; omega
theorem tm10 {a : Int} (h : 0 ≤ a ∧ a ≤ 255) : Int.tmod (wrap64 a) 10 = ((a.toNat % 10 : Nat) : Int) := by
  rw [w64 (by omega), Int.tmod_eq_emod_of_nonneg h.1]
  obtain ⟨n, rfl⟩ := Int.eq_ofNat_of_zero_le h.1
  rw [Int.toNat_natCast]
  rfl
theorem toL {a b : ByteArray} : a.toList = b.toList ↔ a = b := ⟨fun h => by rw [ByteArray.toList_eq, ByteArray.toList_eq] at h; exact Go.WideShapes.bytes_inj h, fun h => h ▸ rfl⟩
theorem all_name : ∀ i : Fin 10, (phase_Name.f (i.1 : Int)).bind (fun s => phase_Parse.f s) = some ((i.1 : Int), true) := by decide +kernel
theorem nm_eq : ∀ i : Fin 10, ∃ l, rampartref19_names.f = some l ∧ l.length = 10 ∧ rdOf ByteArray.empty l (i.1 : Int) = phase_Parse.nm i.1 := by
  intro i
  refine ⟨_, rfl, rfl, ?_⟩
  revert i
  decide +kernel
theorem rparse (s : ByteArray) (d : Nat) : ∀ (k i : Nat), i + d = 10 → d < k → rampartref19_Parse.l0 k s i = some (phase_Parse.lp s d i) := by
  induction d with
  | zero =>
    intro k i hi hk
    obtain ⟨k, rfl⟩ : ∃ j, k = j + 1 := ⟨k - 1, by omega⟩
    rw [rampartref19_Parse.l0, if_neg (by omega)]
    rfl
  | succ d ih =>
    intro k i hi hk
    obtain ⟨k, rfl⟩ : ∃ j, k = j + 1 := ⟨k - 1, by omega⟩
    obtain ⟨l, hl, hlen, hn⟩ := nm_eq ⟨i, by omega⟩
    simp only at hn
    rw [rampartref19_Parse.l0, if_pos (by omega), hl, Option.bind_some, if_pos (by omega), if_pos (by omega), hn, w64 (by omega), phase_Parse.lp]
    by_cases h : phase_Parse.nm i = s
    · rw [if_pos (toL.2 h), if_pos h]
    · rw [if_neg (fun z => h (toL.1 z)), if_neg h]
      exact ih k (i + 1) (by omega) (by omega)
theorem PhaseNames : rampartlaw19_PhaseNames.Pure := by
  intro s a hs ha
  have ha := u8_b ha
  refine ⟨60, ?_⟩
  unfold rampartlaw19_PhaseNames.f
  rw [known, tm10 ha]
  by_cases hl : (s.size : Int) > 100
  · rw [if_pos hl]; rfl
  · rw [if_neg hl]
    have h2 : rampartref19_Parse.f 60 s = some (phase_Parse.lp s 10 0) := rparse s 10 60 0 (by omega) (by omega)
    have h1 : phase_Parse.f s = some (phase_Parse.lp s 10 0) := rfl
    have h3 := all_name ⟨a.toNat % 10, by omega⟩
    simp only at h3
    obtain ⟨t, ht, hp⟩ := Option.bind_eq_some_iff.1 h3
    rw [h1, h2, ht, Option.bind_some, Option.bind_some, Option.bind_some, hp]
    simp
end Go.Proofs.Ytaemgicmbnmecaa.Pure
