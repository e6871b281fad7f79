/- A connection's state never goes back, by its number; it is sure once it is open, till it is reset: for every script; no condition. -/
import Derived.Test.YtaemgicmbnmecaaPAllx11
import Derived.Test.YtaemgicmbnmecaaPAllx13
import Derived.Test.YtaemgicmbnmecaaPAllx15
import Derived.Test.YtaemgicmbnmecaaPAllx18
namespace Go.Proofs.Ytaemgicmbnmecaa.Pure
open Go.RowKit Go.Proofs.Ytaemgicmbnmecaa.PAll Go.Proofs.YtaemgicmbnmecaaW.PrintWords Go.Proofs.YtaemgicmbnmecaaW.PrintLast
set_option linter.unusedVariables false
set_option linter.unusedSimpArgs false
theorem w64 {a : Int} (h : -9223372036854775808 ≤ a ∧ a ≤ 9223372036854775807) : wrap64 a = a := by unfold wrap64; omega
theorem up {α : Type} {g : Nat → Option α} (hm : ∀ k, LeO (g k) (g (k + 1))) {v : α} {a : Nat} (h : g a = some v) : ∀ j, g (a + j) = some v
  | 0 => h
  | j + 1 => hm (a + j) v (up hm h j)
theorem known : rampartlaw19_known.f 60 = some true := by decide +kernel
theorem known_up (k : Nat) : rampartlaw19_known.f (60 + k) = some true := up (g := fun k => rampartlaw19_known.f k) rampartlaw19_known.mono known k
theorem next_up {s c : Int} {r : Bool} {v : Int × Bool} (h : phase_Next.f 10 s r c = some v) (k : Nat) : phase_Next.f (10 + k) s r c = some v := up (g := fun k => phase_Next.f k s r c) (phase_Next.mono _ _ _) h k
def sureB (s : Int) : Bool := decide (4 ≤ s ∧ s < 9)
theorem sure_f (s : Int) : phase_Sure.f s = some (sureB s) := by
  unfold phase_Sure.f sureB
  by_cases h : s ≥ 4
  · rw [if_pos h]; exact congrArg some (decide_eq_decide.2 (by omega))
  · rw [if_neg h, decide_eq_false (by omega)]
def good (s : Int) (o : Option (Int × Bool)) : Bool := match o with
  | some (n, true) => decide (0 ≤ n ∧ n ≤ 9 ∧ s ≤ n ∧ (s = 0 → n = 1) ∧ (n = 9 → s = 9)) && (!sureB s || sureB n)
  | some (n, false) => n == s
  | none => false
theorem all_next : ∀ (s : Fin 10) (r : Bool) (c : Fin 6), good (s.1 : Int) (phase_Next.f 10 (s.1 : Int) r (c.1 : Int)) = true := by decide +kernel
theorem loop (l : List Int) (hl : l.length ≤ 9223372036854775807) (d : Nat) : ∀ (k i : Nat) (s : Int), i + d = l.length → 0 ≤ s → s ≤ 9 → rampartlaw19_PhaseRises.l0 (k + 3 * d + 70) l s (sureB s) i = some true := by
  induction d with
  | zero =>
    intro k i s hi h0 h1
    rw [show k + 3 * 0 + 70 = (60 + (k + 8)) + 1 + 1 by omega, rampartlaw19_PhaseRises.l0, if_neg (by omega), rampartlaw19_PhaseRises.j1, if_neg (by simp), known_up]
    rfl
  | succ d ih =>
    intro k i s hi h0 h1
    rw [show k + 3 * (d + 1) + 70 = (10 + (k + 3 * d + 60 + 1)) + 1 + 1 by omega, rampartlaw19_PhaseRises.l0, if_pos (by omega), rampartlaw19_PhaseRises.j1]
    by_cases h200 : (i : Int) < 200
    · rw [decide_eq_true h200, if_pos rfl, if_pos (by omega), if_pos (by omega)]
      have hg := all_next ⟨s.toNat, by omega⟩ (Go.bits .and .u8 (rd l (i : Int)) 1 == 1) ⟨(((Int.tdiv (rd l (i : Int)) 2) % 256) % 6).toNat, by omega⟩
      simp only at hg
      rw [show ((s.toNat : Nat) : Int) = s by omega, show (((((Int.tdiv (rd l (i : Int)) 2) % 256) % 6).toNat : Nat) : Int) = ((Int.tdiv (rd l (i : Int)) 2) % 256) % 6 by omega] at hg
      revert hg
      cases hx : phase_Next.f 10 s (Go.bits .and .u8 (rd l (i : Int)) 1 == 1) (((Int.tdiv (rd l (i : Int)) 2) % 256) % 6) with
      | none => intro hg; simp [good] at hg
      | some v =>
        rw [next_up hx, Option.bind_some]
        obtain ⟨n, is⟩ := v
        have e : wrap64 ((i : Int) + 1) = ((i + 1 : Nat) : Int) := by rw [w64 (by omega)]; omega
        cases is with
        | false =>
          intro hg
          simp only [good, beq_iff_eq] at hg
          subst hg
          rw [if_neg (by simp), if_pos rfl, e]
          have := ih (k + 2) (i + 1) n (by omega) h0 h1
          rw [show k + 2 + 3 * d + 70 = 10 + (k + 3 * d + 60 + 1) + 1 by omega] at this
          rw [show 10 + (k + 3 * d + 60 + 1) = k + 1 + 3 * d + 70 by omega]
          exact ih (k + 1) (i + 1) n (by omega) h0 h1
        | true =>
          intro hg
          simp only [good, Bool.and_eq_true, decide_eq_true_eq] at hg
          obtain ⟨⟨a0, a1, a2, a3, a4⟩, a5⟩ := hg
          rw [if_pos rfl]
          have hj : rampartlaw19_PhaseRises.j2 (10 + (k + 3 * d + 60 + 1)) l (sureB s) (i : Int) n false = some true := by
            rw [show 10 + (k + 3 * d + 60 + 1) = (k + 3 * d + 70) + 1 by omega, rampartlaw19_PhaseRises.j2, if_neg (by simp), sure_f, e]
            have h := ih k (i + 1) n (by omega) a0 a1
            by_cases hs : sureB s = true
            · rw [hs] at a5
              simp only [Bool.not_true, Bool.false_or] at a5
              rw [a5] at h
              rw [if_pos hs, Option.bind_some, if_pos a5, Option.bind_some, a5]
              exact h
            · rw [if_neg hs, Option.bind_some]
              exact h
          simp only
          rw [if_neg (by omega)]
          by_cases hs0 : s = 0
          · rw [if_pos hs0, if_pos (a3 hs0), if_neg (by have := a3 hs0; omega)]
            exact hj
          · rw [if_neg hs0]
            by_cases hn9 : n = 9
            · rw [if_pos hn9, show (s != 9) = false by simp [a4 hn9]]
              exact hj
            · rw [if_neg hn9]
              exact hj
    · rw [decide_eq_false h200, if_neg (by simp), show 10 + (k + 3 * d + 60 + 1) = 60 + (k + 3 * d + 11) by omega, known_up]
      rfl
theorem PhaseRises : rampartlaw19_PhaseRises.Pure := by
  intro l hm hb hw
  refine ⟨0 + 3 * l.length + 70, ?_⟩
  have := loop l (by omega) l.length 0 0 0 (by omega) (by decide) (by decide)
  exact this
end Go.Proofs.Ytaemgicmbnmecaa.Pure
