/- A connection in which one side alone said Fin is never done; one in which both did is: for every script; no condition. This text: the walk of the law. -/
import Derived.Test.YtaemgicmbnmecaaPAllx11
import Derived.Test.YtaemgicmbnmecaaPAllx15
import Derived.Deep.LoopGhost
namespace Go.Proofs.Ytaemgicmbnmecaa.WPhaseSides
open Go.RowKit Go.Proofs.Ytaemgicmbnmecaa.PAll Go.Proofs.YtaemgicmbnmecaaW.PrintWords Go.Proofs.YtaemgicmbnmecaaW.PrintLast Go.Proofs.YtaemgicmbnmecaaW.PrintMore
set_option linter.unusedVariables false
set_option linter.unusedSimpArgs false
theorem known : rampartlaw19_known.f 60 = some true := by decide +kernel
/-- How far both sides have come: s, by who has said Fin. -/
def Inv (s : Int) (f o : Bool) : Prop := (s = 4 ∧ f = false ∧ o = false) ∨ (s = 5 ∧ f = true ∧ o = false) ∨ (s = 6 ∧ f = false ∧ o = true) ∨ (s = 7 ∧ f = true ∧ o = true) ∨ (s = 8 ∧ f = true ∧ o = true)
set_option maxHeartbeats 16000000 in
set_option maxRecDepth 100000 in
theorem walk {w : World} (l : List Int) (A : Option Addr) (c : Nat) (ok : Kd.C (Kd.int .u8) w A l.length l ∧ l.length ≤ c) (wf : l.length ≤ 9223372036854775807) :
    Calls Try.prog 12 #[.slice A l.length c] w fun e w' => e = .returned (.bool true) ∧ Below w.heap.size w w' := by
  have OK := Aside0.mk ok
  clear ok
  have HB : Aside0 (Below w.heap.size w w) := ⟨Below.refl _ _⟩
  go_enter Try.func12, Try.ntmps12
  go_wp2
  go_loopg [3, 4, 5, 6] l.length (fun kq v3 v4 v5 v6 wc => ∃ (i : Nat) (s : Int) (f o : Bool), v3 = .int .i64 s ∧ v4 = .bool f ∧ v5 = .bool o ∧ v6 = .int .i64 i ∧ Aside0 (i + kq = l.length) ∧ Aside0 (Inv s f o) ∧ Aside0 (Below w.heap.size w wc))
  case atStart => exact ⟨0, 4, false, false, rfl, rfl, rfl, rfl, ⟨by omega⟩, ⟨.inl ⟨rfl, rfl, rfl⟩⟩, HB⟩
  case round =>
    clear HB
    obtain ⟨i, s, f, o, rfl, rfl, rfl, rfl, HI, HV, HB⟩ := hrel
    cases gk with
    | zero =>
      have hi := HI.out
      have d1 : decide ((i : Int) < (l.length : Int)) = false := decide_eq_false (by omega)
      have d2 : decide (i < l.length) = false := decide_eq_false (by omega)
      clear hi
      go_wp2_with (fail)
      refine (rampartlaw19_known.calls 60 _ _ known).mono ?_
      rintro e w' ⟨rfl, hb⟩
      have HB2 := Aside0.mk (below_then HB.out HB.out.size hb)
      clear hb
      go_wp2
      go_ret
      exact ⟨rfl, HB2.out⟩
    | succ k1 =>
      have hi := HI.out
      have hil : (i : Int) < (l.length : Int) := by omega
      have d1 : decide ((i : Int) < (l.length : Int)) = true := decide_eq_true hil
      have d2 : decide (i < l.length) = true := decide_eq_true (by omega)
      by_cases h200 : (i : Int) < 200
      · have d3 : decide ((i : Int) < 200) = true := decide_eq_true h200
        have d4 : decide (i < 200) = true := decide_eq_true (by omega)
        obtain ⟨ad, e, hx⟩ := Kd.at_int (Kd.C_below OK.out.1 HB.out) (i : Int) (by omega) hil
        subst e
        simp only [Int.toNat_natCast] at hx
        obtain ⟨x, ex⟩ : ∃ x, rd l (i : Int) = x := ⟨_, rfl⟩
        rw [ex] at hx
        have hi0 : (0 : Int) ≤ (i : Int) := Int.natCast_nonneg _
        have w1 : wrap64 ((i : Int) + 1) = (i : Int) + 1 := by unfold wrap64; omega
        have W1 := Aside0.mk w1
        clear ex hi w1
        rcases HV.out with ⟨rfl, rfl, rfl⟩ | ⟨rfl, rfl, rfl⟩ | ⟨rfl, rfl, rfl⟩ | ⟨rfl, rfl, rfl⟩ | ⟨rfl, rfl, rfl⟩
        · clear HV
          cases hb1 : (Go.bits .and .u8 x 1 == 1) <;> cases hb6 : (Go.bits .and .u8 x 6 == 6)
          · go_wp2_with (fail)
            refine (phase_Next.calls 10 4 false 3 (4, true).1 (4, true).2 _ (by decide +kernel)).mono ?_
            rintro e w' ⟨rfl, hb⟩
            have HB2 : Aside0 (Below w.heap.size w w') := ⟨below_then HB.out HB.out.size hb.below⟩
            clear hb
            go_wp2
            go_roundg k1
            case rel => exact ⟨i + 1, 4, false, false, rfl, rfl, rfl, by go_num, ⟨by have := HI.out; omega⟩, ⟨by simp [Inv]⟩, HB2⟩
            case measure => omega
          · go_wp2_with (fail)
            refine (phase_Next.calls 10 4 false 4 (5, true).1 (5, true).2 _ (by decide +kernel)).mono ?_
            rintro e w' ⟨rfl, hb⟩
            have HB2 : Aside0 (Below w.heap.size w w') := ⟨below_then HB.out HB.out.size hb.below⟩
            clear hb
            go_wp2
            go_roundg k1
            case rel => exact ⟨i + 1, 5, true, false, rfl, rfl, rfl, by go_num, ⟨by have := HI.out; omega⟩, ⟨by simp [Inv]⟩, HB2⟩
            case measure => omega
          · go_wp2_with (fail)
            refine (phase_Next.calls 10 4 true 3 (4, true).1 (4, true).2 _ (by decide +kernel)).mono ?_
            rintro e w' ⟨rfl, hb⟩
            have HB2 : Aside0 (Below w.heap.size w w') := ⟨below_then HB.out HB.out.size hb.below⟩
            clear hb
            go_wp2
            go_roundg k1
            case rel => exact ⟨i + 1, 4, false, false, rfl, rfl, rfl, by go_num, ⟨by have := HI.out; omega⟩, ⟨by simp [Inv]⟩, HB2⟩
            case measure => omega
          · go_wp2_with (fail)
            refine (phase_Next.calls 10 4 true 4 (6, true).1 (6, true).2 _ (by decide +kernel)).mono ?_
            rintro e w' ⟨rfl, hb⟩
            have HB2 : Aside0 (Below w.heap.size w w') := ⟨below_then HB.out HB.out.size hb.below⟩
            clear hb
            go_wp2
            go_roundg k1
            case rel => exact ⟨i + 1, 6, false, true, rfl, rfl, rfl, by go_num, ⟨by have := HI.out; omega⟩, ⟨by simp [Inv]⟩, HB2⟩
            case measure => omega
        · clear HV
          cases hb1 : (Go.bits .and .u8 x 1 == 1) <;> cases hb6 : (Go.bits .and .u8 x 6 == 6)
          · go_wp2_with (fail)
            refine (phase_Next.calls 10 5 false 3 (5, true).1 (5, true).2 _ (by decide +kernel)).mono ?_
            rintro e w' ⟨rfl, hb⟩
            have HB2 : Aside0 (Below w.heap.size w w') := ⟨below_then HB.out HB.out.size hb.below⟩
            clear hb
            go_wp2
            go_roundg k1
            case rel => exact ⟨i + 1, 5, true, false, rfl, rfl, rfl, by go_num, ⟨by have := HI.out; omega⟩, ⟨by simp [Inv]⟩, HB2⟩
            case measure => omega
          · go_wp2_with (fail)
            refine (phase_Next.calls 10 5 false 4 (5, true).1 (5, true).2 _ (by decide +kernel)).mono ?_
            rintro e w' ⟨rfl, hb⟩
            have HB2 : Aside0 (Below w.heap.size w w') := ⟨below_then HB.out HB.out.size hb.below⟩
            clear hb
            go_wp2
            go_roundg k1
            case rel => exact ⟨i + 1, 5, true, false, rfl, rfl, rfl, by go_num, ⟨by have := HI.out; omega⟩, ⟨by simp [Inv]⟩, HB2⟩
            case measure => omega
          · go_wp2_with (fail)
            refine (phase_Next.calls 10 5 true 3 (5, true).1 (5, true).2 _ (by decide +kernel)).mono ?_
            rintro e w' ⟨rfl, hb⟩
            have HB2 : Aside0 (Below w.heap.size w w') := ⟨below_then HB.out HB.out.size hb.below⟩
            clear hb
            go_wp2
            go_roundg k1
            case rel => exact ⟨i + 1, 5, true, false, rfl, rfl, rfl, by go_num, ⟨by have := HI.out; omega⟩, ⟨by simp [Inv]⟩, HB2⟩
            case measure => omega
          · go_wp2_with (fail)
            refine (phase_Next.calls 10 5 true 4 (7, true).1 (7, true).2 _ (by decide +kernel)).mono ?_
            rintro e w' ⟨rfl, hb⟩
            have HB2 : Aside0 (Below w.heap.size w w') := ⟨below_then HB.out HB.out.size hb.below⟩
            clear hb
            go_wp2
            go_roundg k1
            case rel => exact ⟨i + 1, 7, true, true, rfl, rfl, rfl, by go_num, ⟨by have := HI.out; omega⟩, ⟨by simp [Inv]⟩, HB2⟩
            case measure => omega
        · clear HV
          cases hb1 : (Go.bits .and .u8 x 1 == 1) <;> cases hb6 : (Go.bits .and .u8 x 6 == 6)
          · go_wp2_with (fail)
            refine (phase_Next.calls 10 6 false 3 (6, true).1 (6, true).2 _ (by decide +kernel)).mono ?_
            rintro e w' ⟨rfl, hb⟩
            have HB2 : Aside0 (Below w.heap.size w w') := ⟨below_then HB.out HB.out.size hb.below⟩
            clear hb
            go_wp2
            go_roundg k1
            case rel => exact ⟨i + 1, 6, false, true, rfl, rfl, rfl, by go_num, ⟨by have := HI.out; omega⟩, ⟨by simp [Inv]⟩, HB2⟩
            case measure => omega
          · go_wp2_with (fail)
            refine (phase_Next.calls 10 6 false 4 (7, true).1 (7, true).2 _ (by decide +kernel)).mono ?_
            rintro e w' ⟨rfl, hb⟩
            have HB2 : Aside0 (Below w.heap.size w w') := ⟨below_then HB.out HB.out.size hb.below⟩
            clear hb
            go_wp2
            go_roundg k1
            case rel => exact ⟨i + 1, 7, true, true, rfl, rfl, rfl, by go_num, ⟨by have := HI.out; omega⟩, ⟨by simp [Inv]⟩, HB2⟩
            case measure => omega
          · go_wp2_with (fail)
            refine (phase_Next.calls 10 6 true 3 (6, true).1 (6, true).2 _ (by decide +kernel)).mono ?_
            rintro e w' ⟨rfl, hb⟩
            have HB2 : Aside0 (Below w.heap.size w w') := ⟨below_then HB.out HB.out.size hb.below⟩
            clear hb
            go_wp2
            go_roundg k1
            case rel => exact ⟨i + 1, 6, false, true, rfl, rfl, rfl, by go_num, ⟨by have := HI.out; omega⟩, ⟨by simp [Inv]⟩, HB2⟩
            case measure => omega
          · go_wp2_with (fail)
            refine (phase_Next.calls 10 6 true 4 (6, true).1 (6, true).2 _ (by decide +kernel)).mono ?_
            rintro e w' ⟨rfl, hb⟩
            have HB2 : Aside0 (Below w.heap.size w w') := ⟨below_then HB.out HB.out.size hb.below⟩
            clear hb
            go_wp2
            go_roundg k1
            case rel => exact ⟨i + 1, 6, false, true, rfl, rfl, rfl, by go_num, ⟨by have := HI.out; omega⟩, ⟨by simp [Inv]⟩, HB2⟩
            case measure => omega
        · clear HV
          cases hb1 : (Go.bits .and .u8 x 1 == 1) <;> cases hb6 : (Go.bits .and .u8 x 6 == 6)
          · go_wp2_with (fail)
            refine (phase_Next.calls 10 7 false 3 (8, true).1 (8, true).2 _ (by decide +kernel)).mono ?_
            rintro e w' ⟨rfl, hb⟩
            have HB2 : Aside0 (Below w.heap.size w w') := ⟨below_then HB.out HB.out.size hb.below⟩
            clear hb
            go_wp2
            go_roundg k1
            case rel => exact ⟨i + 1, 8, true, true, rfl, rfl, rfl, by go_num, ⟨by have := HI.out; omega⟩, ⟨by simp [Inv]⟩, HB2⟩
            case measure => omega
          · go_wp2_with (fail)
            refine (phase_Next.calls 10 7 false 4 (7, true).1 (7, true).2 _ (by decide +kernel)).mono ?_
            rintro e w' ⟨rfl, hb⟩
            have HB2 : Aside0 (Below w.heap.size w w') := ⟨below_then HB.out HB.out.size hb.below⟩
            clear hb
            go_wp2
            go_roundg k1
            case rel => exact ⟨i + 1, 7, true, true, rfl, rfl, rfl, by go_num, ⟨by have := HI.out; omega⟩, ⟨by simp [Inv]⟩, HB2⟩
            case measure => omega
          · go_wp2_with (fail)
            refine (phase_Next.calls 10 7 true 3 (8, true).1 (8, true).2 _ (by decide +kernel)).mono ?_
            rintro e w' ⟨rfl, hb⟩
            have HB2 : Aside0 (Below w.heap.size w w') := ⟨below_then HB.out HB.out.size hb.below⟩
            clear hb
            go_wp2
            go_roundg k1
            case rel => exact ⟨i + 1, 8, true, true, rfl, rfl, rfl, by go_num, ⟨by have := HI.out; omega⟩, ⟨by simp [Inv]⟩, HB2⟩
            case measure => omega
          · go_wp2_with (fail)
            refine (phase_Next.calls 10 7 true 4 (7, true).1 (7, true).2 _ (by decide +kernel)).mono ?_
            rintro e w' ⟨rfl, hb⟩
            have HB2 : Aside0 (Below w.heap.size w w') := ⟨below_then HB.out HB.out.size hb.below⟩
            clear hb
            go_wp2
            go_roundg k1
            case rel => exact ⟨i + 1, 7, true, true, rfl, rfl, rfl, by go_num, ⟨by have := HI.out; omega⟩, ⟨by simp [Inv]⟩, HB2⟩
            case measure => omega
        · clear HV
          cases hb1 : (Go.bits .and .u8 x 1 == 1) <;> cases hb6 : (Go.bits .and .u8 x 6 == 6)
          · go_wp2_with (fail)
            refine (phase_Next.calls 10 8 false 3 (8, true).1 (8, true).2 _ (by decide +kernel)).mono ?_
            rintro e w' ⟨rfl, hb⟩
            have HB2 : Aside0 (Below w.heap.size w w') := ⟨below_then HB.out HB.out.size hb.below⟩
            clear hb
            go_wp2
            go_roundg k1
            case rel => exact ⟨i + 1, 8, true, true, rfl, rfl, rfl, by go_num, ⟨by have := HI.out; omega⟩, ⟨by simp [Inv]⟩, HB2⟩
            case measure => omega
          · go_wp2_with (fail)
            refine (phase_Next.calls 10 8 false 4 (8, true).1 (8, true).2 _ (by decide +kernel)).mono ?_
            rintro e w' ⟨rfl, hb⟩
            have HB2 : Aside0 (Below w.heap.size w w') := ⟨below_then HB.out HB.out.size hb.below⟩
            clear hb
            go_wp2
            go_roundg k1
            case rel => exact ⟨i + 1, 8, true, true, rfl, rfl, rfl, by go_num, ⟨by have := HI.out; omega⟩, ⟨by simp [Inv]⟩, HB2⟩
            case measure => omega
          · go_wp2_with (fail)
            refine (phase_Next.calls 10 8 true 3 (8, true).1 (8, true).2 _ (by decide +kernel)).mono ?_
            rintro e w' ⟨rfl, hb⟩
            have HB2 : Aside0 (Below w.heap.size w w') := ⟨below_then HB.out HB.out.size hb.below⟩
            clear hb
            go_wp2
            go_roundg k1
            case rel => exact ⟨i + 1, 8, true, true, rfl, rfl, rfl, by go_num, ⟨by have := HI.out; omega⟩, ⟨by simp [Inv]⟩, HB2⟩
            case measure => omega
          · go_wp2_with (fail)
            refine (phase_Next.calls 10 8 true 4 (8, true).1 (8, true).2 _ (by decide +kernel)).mono ?_
            rintro e w' ⟨rfl, hb⟩
            have HB2 : Aside0 (Below w.heap.size w w') := ⟨below_then HB.out HB.out.size hb.below⟩
            clear hb
            go_wp2
            go_roundg k1
            case rel => exact ⟨i + 1, 8, true, true, rfl, rfl, rfl, by go_num, ⟨by have := HI.out; omega⟩, ⟨by simp [Inv]⟩, HB2⟩
            case measure => omega
      · have d3 : decide ((i : Int) < 200) = false := decide_eq_false h200
        have d4 : decide (i < 200) = false := decide_eq_false (by omega)
        clear hi
        go_wp2_with (fail)
        refine (rampartlaw19_known.calls 60 _ _ known).mono ?_
        rintro e w' ⟨rfl, hb⟩
        have HB2 := Aside0.mk (below_then HB.out HB.out.size hb)
        clear hb
        go_wp2
        go_ret
        exact ⟨rfl, HB2.out⟩
end Go.Proofs.Ytaemgicmbnmecaa.WPhaseSides
