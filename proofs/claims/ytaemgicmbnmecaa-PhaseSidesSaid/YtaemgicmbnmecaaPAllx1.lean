-- Written by a program of this work (wip/mkprint.py, wip/myprint.sh) out of the translation; not trusted: Lean checks it.
import Derived.Test.YtaemgicmbnmecaaPAllx0
namespace Go.Proofs.Ytaemgicmbnmecaa.PAll
open Go.RowKit Go.Proofs.YtaemgicmbnmecaaW.PrintWords Go.Proofs.YtaemgicmbnmecaaW.PrintLast Go.Proofs.YtaemgicmbnmecaaW.PrintMore
attribute [local go_sem] max2_int min2_int max_two min_two max_three min_three max_four min_four   -- for this text's walks alone
set_option linter.unusedVariables false
set_option linter.unusedSimpArgs false

/-! ### flags_Class: function 13 -/
def flags_Class.j0 : Nat → Int → Bool → Option (Int)
  | 0, _, _ => none
  | k + 1, x0, x8 => if x8 = true then (some 0) else (if (Go.bits .andNot .i64 x0 40) = 20 then (some 5) else (if (Go.bits .andNot .i64 x0 40) = 4 then (some 5) else (if (Go.bits .andNot .i64 x0 40) = 2 then (some 1) else (if (Go.bits .andNot .i64 x0 40) = 18 then (some 2) else (if (Go.bits .andNot .i64 x0 40) = 17 then (some 4) else (if (Go.bits .andNot .i64 x0 40) = 16 then (some 3) else (some 0)))))))
def flags_Class.f (k : Nat) (a0 : Int) : Option (Int) := if a0 < 0 then (flags_Class.j0 k a0 true) else (flags_Class.j0 k a0 (decide (a0 > 63)))
theorem flags_Class.mono_l : ∀ k, (∀ y0 y1, LeO (flags_Class.j0 k y0 y1) (flags_Class.j0 (k + 1) y0 y1))
  | 0 => fun _ _ r h => by simp [flags_Class.j0] at h
  | k + 1 => by
    have ih0 := flags_Class.mono_l k
    · intro y0 y1
      unfold flags_Class.j0
      repeat' first
      | (with_reducible exact ih0 _ _)
      | (with_reducible exact LeO.refl _)
      | (with_reducible exact LeO.none _)
      | (with_reducible refine LeO.ite ?_ ?_)
      | (with_reducible refine LeO.bind ?_ (fun _ => ?_))
      | exact ih0 _ _
      | exact LeO.none _
      | refine LeO.ite ?_ ?_
      | refine LeO.bind ?_ (fun _ => ?_)
theorem flags_Class.mono : ∀ a0 k, LeO (flags_Class.f k a0) (flags_Class.f (k + 1) a0) := by
  intro a0 k
  have ih0 := flags_Class.mono_l k
  unfold flags_Class.f
  repeat' first
      | (with_reducible exact ih0 _ _)
      | (with_reducible exact LeO.refl _)
      | (with_reducible exact LeO.none _)
      | (with_reducible refine LeO.ite ?_ ?_)
      | (with_reducible refine LeO.bind ?_ (fun _ => ?_))
      | exact ih0 _ _
      | exact LeO.none _
      | refine LeO.ite ?_ ?_
      | refine LeO.bind ?_ (fun _ => ?_)
set_option maxHeartbeats 8000000 in
set_option maxRecDepth 100000 in
theorem flags_Class.calls (k : Nat) (a0 : Int) (r : Int) (w : World) (h : flags_Class.f k a0 = some r) :
    Calls Try.prog 13 #[.int .i64 a0] w fun e w' => e = .returned (.int .i64 r) ∧ Drawn0 w w' := by
  have H : (if a0 < 0 then (flags_Class.j0 k a0 true) else (flags_Class.j0 k a0 (decide (a0 > 63)))) = some r := h
  clear h
  have HC2 := Aside0.mk H
  clear H
  go_enter Try.func13, Try.ntmps13
  go_upto_region 1 with (fail)
  go_cut [8] (fun v8 wc => ∃ (kq : Nat) (x8_1 : Bool), v8 = .bool x8_1 ∧ Aside0 (flags_Class.j0 kq a0 x8_1 = some r) ∧ Aside0 (kq ≤ k) ∧ Drawn0 w wc)
  case first =>
    have H := HC2.out
    clear HC2
    by_cases c3 : a0 < 0
    · rw [if_pos c3] at H
      have c3b0 : decide (a0 < 0) = true := decide_eq_true c3
      clear c3
      (first | rw [c3b0] | (simp only [i64_w, i32_w]; rw [c3b0]) | skip)
      have H' := Aside0.mk H
      clear H
      go_wp2
      go_meet
      case rel => exact ⟨_, (true), (by first | rfl | (simp; done) | (simp [*]; done)), H', ⟨by first | omega | exact Nat.le_refl _⟩, by repeat (first | exact Drawn0.refl _ | apply Drawn0.step)⟩
    · rw [if_neg c3] at H
      have c3b0 : decide (a0 < 0) = false := decide_eq_false c3
      clear c3
      (first | rw [c3b0] | (simp only [i64_w, i32_w]; rw [c3b0]) | skip)
      have H' := Aside0.mk H
      clear H
      go_wp2
      go_meet
      case rel => exact ⟨_, (decide (a0 > 63)), (by first | rfl | (simp; done) | (simp [*]; done)), H', ⟨by first | omega | exact Nat.le_refl _⟩, by repeat (first | exact Drawn0.refl _ | apply Drawn0.step)⟩
  case rest =>
    clear HC2
    try clear c1
    try clear p2
    try clear c3
    try clear c3b0
    obtain ⟨kq, x8_1, rfl, HA, HJ1, ⟨mc1, rfl⟩⟩ := hcut
    cases kq with
    | zero => exact absurd HA.out (by simp [flags_Class.j0])
    | succ kj1 =>
      have H := HA.out
      clear HA
      simp only [flags_Class.j0] at H
      by_cases c4 : x8_1 = true
      · subst c4
        have H1 : (some 0) = some r := by rw [if_pos rfl] at H; exact H
        clear H
        have H := H1
        clear H1
        obtain rfl := Option.some.inj H
        go_wp2
        go_ret
        exact ⟨by first | rfl | (simp; done) | (simp [*]; done), by repeat (first | exact Drawn0.refl _ | apply Drawn0.step)⟩
      · replace c4 := Bool.eq_false_iff.mpr c4
        subst c4
        have H1 : (if (Go.bits .andNot .i64 a0 40) = 20 then (some 5) else (if (Go.bits .andNot .i64 a0 40) = 4 then (some 5) else (if (Go.bits .andNot .i64 a0 40) = 2 then (some 1) else (if (Go.bits .andNot .i64 a0 40) = 18 then (some 2) else (if (Go.bits .andNot .i64 a0 40) = 17 then (some 4) else (if (Go.bits .andNot .i64 a0 40) = 16 then (some 3) else (some 0))))))) = some r := by rw [if_neg (show ¬ (false = true) by decide)] at H; exact H
        clear H
        have H := H1
        clear H1
        by_cases c5 : (Go.bits .andNot .i64 a0 40) = 20
        · rw [if_pos c5] at H
          have c5b0 : ((Go.bits .andNot .i64 a0 40) == 20) = true := beq_iff_eq.mpr c5
          have c5b1 : ((Go.bits .andNot .i64 a0 40) != 20) = false := bne_eq_false_iff_eq.mpr c5
          clear c5
          obtain rfl := Option.some.inj H
          go_wp2
          go_ret
          exact ⟨by first | rfl | (simp; done) | (simp [*]; done), by repeat (first | exact Drawn0.refl _ | apply Drawn0.step)⟩
        · rw [if_neg c5] at H
          have c5b0 : ((Go.bits .andNot .i64 a0 40) == 20) = false := beq_eq_false_iff_ne.mpr c5
          have c5b1 : ((Go.bits .andNot .i64 a0 40) != 20) = true := bne_iff_ne.mpr c5
          by_cases c6 : (Go.bits .andNot .i64 a0 40) = 4
          · rw [if_pos c6] at H
            have c6b0 : ((Go.bits .andNot .i64 a0 40) == 4) = true := beq_iff_eq.mpr c6
            have c6b1 : ((Go.bits .andNot .i64 a0 40) != 4) = false := bne_eq_false_iff_eq.mpr c6
            clear c6
            obtain rfl := Option.some.inj H
            go_wp2
            go_ret
            exact ⟨by first | rfl | (simp; done) | (simp [*]; done), by repeat (first | exact Drawn0.refl _ | apply Drawn0.step)⟩
          · rw [if_neg c6] at H
            have c6b0 : ((Go.bits .andNot .i64 a0 40) == 4) = false := beq_eq_false_iff_ne.mpr c6
            have c6b1 : ((Go.bits .andNot .i64 a0 40) != 4) = true := bne_iff_ne.mpr c6
            by_cases c7 : (Go.bits .andNot .i64 a0 40) = 2
            · rw [if_pos c7] at H
              have c7b0 : ((Go.bits .andNot .i64 a0 40) == 2) = true := beq_iff_eq.mpr c7
              have c7b1 : ((Go.bits .andNot .i64 a0 40) != 2) = false := bne_eq_false_iff_eq.mpr c7
              clear c7
              obtain rfl := Option.some.inj H
              go_wp2
              go_ret
              exact ⟨by first | rfl | (simp; done) | (simp [*]; done), by repeat (first | exact Drawn0.refl _ | apply Drawn0.step)⟩
            · rw [if_neg c7] at H
              have c7b0 : ((Go.bits .andNot .i64 a0 40) == 2) = false := beq_eq_false_iff_ne.mpr c7
              have c7b1 : ((Go.bits .andNot .i64 a0 40) != 2) = true := bne_iff_ne.mpr c7
              by_cases c8 : (Go.bits .andNot .i64 a0 40) = 18
              · rw [if_pos c8] at H
                have c8b0 : ((Go.bits .andNot .i64 a0 40) == 18) = true := beq_iff_eq.mpr c8
                have c8b1 : ((Go.bits .andNot .i64 a0 40) != 18) = false := bne_eq_false_iff_eq.mpr c8
                clear c8
                obtain rfl := Option.some.inj H
                go_wp2
                go_ret
                exact ⟨by first | rfl | (simp; done) | (simp [*]; done), by repeat (first | exact Drawn0.refl _ | apply Drawn0.step)⟩
              · rw [if_neg c8] at H
                have c8b0 : ((Go.bits .andNot .i64 a0 40) == 18) = false := beq_eq_false_iff_ne.mpr c8
                have c8b1 : ((Go.bits .andNot .i64 a0 40) != 18) = true := bne_iff_ne.mpr c8
                by_cases c9 : (Go.bits .andNot .i64 a0 40) = 17
                · rw [if_pos c9] at H
                  have c9b0 : ((Go.bits .andNot .i64 a0 40) == 17) = true := beq_iff_eq.mpr c9
                  have c9b1 : ((Go.bits .andNot .i64 a0 40) != 17) = false := bne_eq_false_iff_eq.mpr c9
                  clear c9
                  obtain rfl := Option.some.inj H
                  go_wp2
                  go_ret
                  exact ⟨by first | rfl | (simp; done) | (simp [*]; done), by repeat (first | exact Drawn0.refl _ | apply Drawn0.step)⟩
                · rw [if_neg c9] at H
                  have c9b0 : ((Go.bits .andNot .i64 a0 40) == 17) = false := beq_eq_false_iff_ne.mpr c9
                  have c9b1 : ((Go.bits .andNot .i64 a0 40) != 17) = true := bne_iff_ne.mpr c9
                  by_cases c10 : (Go.bits .andNot .i64 a0 40) = 16
                  · rw [if_pos c10] at H
                    have c10b0 : ((Go.bits .andNot .i64 a0 40) == 16) = true := beq_iff_eq.mpr c10
                    have c10b1 : ((Go.bits .andNot .i64 a0 40) != 16) = false := bne_eq_false_iff_eq.mpr c10
                    clear c10
                    obtain rfl := Option.some.inj H
                    go_wp2
                    go_ret
                    exact ⟨by first | rfl | (simp; done) | (simp [*]; done), by repeat (first | exact Drawn0.refl _ | apply Drawn0.step)⟩
                  · rw [if_neg c10] at H
                    have c10b0 : ((Go.bits .andNot .i64 a0 40) == 16) = false := beq_eq_false_iff_ne.mpr c10
                    have c10b1 : ((Go.bits .andNot .i64 a0 40) != 16) = true := bne_iff_ne.mpr c10
                    obtain rfl := Option.some.inj H
                    go_wp2
                    go_ret
                    exact ⟨by first | rfl | (simp; done) | (simp [*]; done), by repeat (first | exact Drawn0.refl _ | apply Drawn0.step)⟩

/-! ### rampartref10_has: function 33 -/
def rampartref10_has.f (a0 : Int) (a1 : Int) : Option (Bool) := if a1 = 0 then (none) else (some ((Int.tmod (wrap64 (Int.tdiv a0 a1)) 2) == 1))
set_option maxHeartbeats 8000000 in
set_option maxRecDepth 100000 in
theorem rampartref10_has.calls (a0 : Int) (a1 : Int) (r : Bool) (w : World) (h : rampartref10_has.f a0 a1 = some r) :
    Calls Try.prog 33 #[.int .i64 a0, .int .i64 a1] w fun e w' => e = .returned (.bool r) ∧ Drawn0 w w' := by
  have H : (if a1 = 0 then (none) else (some ((Int.tmod (wrap64 (Int.tdiv a0 a1)) 2) == 1))) = some r := h
  clear h
  by_cases c3 : a1 = 0
  · rw [if_pos c3] at H
    exact absurd H (by simp)
  · rw [if_neg c3] at H
    have c3b0 : (a1 == 0) = false := beq_eq_false_iff_ne.mpr c3
    have c3b1 : (a1 != 0) = true := bne_iff_ne.mpr c3
    obtain rfl := Option.some.inj H
    go_enter Try.func33, Try.ntmps33
    go_wp2
    go_ret
    exact ⟨by first | rfl | (simp; done) | (simp [*]; done), by repeat (first | exact Drawn0.refl _ | apply Drawn0.step)⟩

end Go.Proofs.Ytaemgicmbnmecaa.PAll
