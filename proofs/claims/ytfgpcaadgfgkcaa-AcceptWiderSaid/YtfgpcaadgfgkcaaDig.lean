/- A number in digits: the program's and the reference's functions come to the same text. For numbers from -10^13 to 10^14. -/
import Derived.Test.YtfgpcaadgfgkcaaPAllx3
import Derived.Test.YtfgpcaadgfgkcaaPAllx7
import Derived.Test.YtfgpcaadgfgkcaaSeqnLem
namespace Go.Proofs.Ytfgpcaadgfgkcaa.Dig
open Go.RowKit Go.Proofs.Ytfgpcaadgfgkcaa.PAll Go.Proofs.YtfgpcaadgfgkcaaW.PrintWords Go.Proofs.YtfgpcaadgfgkcaaW.PrintLast Go.Proofs.Ytfgpcaadgfgkcaa.SeqnLem
theorem one_size (x : Int) : (strOfNums [x]).size = 1 := by unfold strOfNums; rfl
theorem nonneg : ∀ (k : Nat) (n : Int), 0 ≤ n → n < 10 ^ (k + 1) → n ≤ 9223372036854775807 → k ≤ 1000 → ∃ r, window_decimal.f (k + 1) n = some r ∧ rampartref01_Digits.f (k + 1) n = some r ∧ r.size ≤ k + 1
  | 0, n, h0, h1, h2, _ => by
    have h3 : n < 10 := by simpa using h1
    refine ⟨strOfNums [(wrap64 (48 + n)) % 256], ?_, ?_, by rw [one_size]; omega⟩
    · unfold window_decimal.f; rw [if_neg (by omega), if_pos h3]
    · unfold rampartref01_Digits.f; rw [if_neg (by omega), if_pos h3]
  | k + 1, n, h0, h1, h2, hk => by
    by_cases h3 : n < 10
    · refine ⟨strOfNums [(wrap64 (48 + n)) % 256], ?_, ?_, by rw [one_size]; omega⟩
      · unfold window_decimal.f; rw [if_neg (by omega), if_pos h3]
      · unfold rampartref01_Digits.f; rw [if_neg (by omega), if_pos h3]
    · have hd : Int.tdiv n 10 = n / 10 := Int.tdiv_eq_ediv_of_nonneg h0
      have hw : wrap64 (Int.tdiv n 10) = n / 10 := by rw [hd]; exact w64 (by omega)
      obtain ⟨r, e1, e2, e3⟩ := nonneg k (n / 10) (by omega) (by rw [Int.pow_succ] at h1; omega) (by omega) (by omega)
      refine ⟨r ++ strOfNums [(wrap64 (48 + (Int.tmod n 10))) % 256], ?_, ?_, by rw [ByteArray.size_append, one_size]; omega⟩
      · unfold window_decimal.f
        rw [if_neg (by omega), if_neg h3, hw, e1, Option.bind_some, Option.bind_some, one_size, if_pos (by omega)]
      · unfold rampartref01_Digits.f
        rw [if_neg (by omega), if_neg h3, hw, e2, Option.bind_some, Option.bind_some, one_size, if_pos (by omega)]
/-- The text. -/
def dig (n : Int) : ByteArray := (window_decimal.f 14 n).getD ⟨#[]⟩
theorem dig_ex {n : Int} (h0 : -10000000000000 < n) (h1 : n < 100000000000000) : window_decimal.f 14 n = some (dig n) ∧ rampartref01_Digits.f 14 n = some (dig n) ∧ (dig n).size ≤ 14 := by
  by_cases h : n < 0
  · obtain ⟨r, e1, e2, e3⟩ := nonneg 12 (-n) (by omega) (by rw [show (10 : Int) ^ (12 + 1) = 10000000000000 from by decide]; omega) (by omega) (by omega)
    have hw : wrap64 (-n) = -n := w64 (by omega)
    have s1 : (⟨#[45]⟩ : ByteArray).size = 1 := rfl
    have f1 : window_decimal.f 14 n = some ((⟨#[45]⟩ : ByteArray) ++ r) := by
      unfold window_decimal.f
      rw [if_pos h, hw, e1, Option.bind_some, if_pos (by omega)]
    have f2 : rampartref01_Digits.f 14 n = some ((⟨#[45]⟩ : ByteArray) ++ r) := by
      unfold rampartref01_Digits.f
      rw [if_pos h, hw, e2, Option.bind_some, if_pos (by omega)]
    unfold dig
    rw [f1, f2]
    refine ⟨rfl, rfl, ?_⟩
    show ((⟨#[45]⟩ : ByteArray) ++ r).size ≤ 14
    rw [ByteArray.size_append, s1]
    omega
  · obtain ⟨r, e1, e2, e3⟩ := nonneg 13 n (by omega) (by rw [show (10 : Int) ^ (13 + 1) = 100000000000000 from by decide]; omega) (by omega) (by omega)
    unfold dig
    rw [e1, e2]
    exact ⟨rfl, rfl, e3⟩
theorem dig_size {n : Int} (h0 : -10000000000000 < n) (h1 : n < 100000000000000) : (dig n).size ≤ 14 := (dig_ex h0 h1).2.2
section
variable {w : World}
theorem c_decimal {n : Int} (h0 : -10000000000000 < n) (h1 : n < 100000000000000) : Calls Try.prog 55 #[.int .i64 n] w fun e w' => e = .returned (.string (dig n)) ∧ Below w.heap.size w w' := window_decimal.calls 14 n _ w (dig_ex h0 h1).1
theorem c_digits {n : Int} (h0 : -10000000000000 < n) (h1 : n < 100000000000000) : Calls Try.prog 56 #[.int .i64 n] w fun e w' => e = .returned (.string (dig n)) ∧ Below w.heap.size w w' := rampartref01_Digits.calls 14 n _ w (dig_ex h0 h1).2.1
end
end Go.Proofs.Ytfgpcaadgfgkcaa.Dig
