-- Written by a program of this work (wip/mkprint.py, wip/myprint.sh) out of the translation; not trusted: Lean checks it.
import Derived.Test.YtaemgicmbnmecaaPAllx0
import Derived.Test.YtaemgicmbnmecaaPAllx3
namespace Go.Proofs.Ytaemgicmbnmecaa.PAll
open Go.RowKit Go.Proofs.YtaemgicmbnmecaaW.PrintWords Go.Proofs.YtaemgicmbnmecaaW.PrintLast Go.Proofs.YtaemgicmbnmecaaW.PrintMore
attribute [local go_sem] max2_int min2_int max_two min_two max_three min_three max_four min_four   -- for this text's walks alone
set_option linter.unusedVariables false
set_option linter.unusedSimpArgs false

/-! ### flags_Parse: function 18 -/
mutual
def flags_Parse.l0 : Nat → ByteArray → Int → Int → Int → Int → Option (Int × Bool)
  | 0, _, _, _, _, _ => none
  | k + 1, x0, x4, x5, x9, x10 => if x10 < x9 then (flags_Parse.l1 k x0 x4 x5 x10 x9 x10 0) else ((flags_Show.f k x4).bind fun t109 => (if t109.toList = x0.toList then (some (x4, true)) else (some (0, false))))
def flags_Parse.l1 : Nat → ByteArray → Int → Int → Int → Int → Int → Int → Option (Int × Bool)
  | 0, _, _, _, _, _, _, _ => none
  | k + 1, x0, x4, x5, x6, x9, x10, x13 => if x13 < 6 then (if 0 ≤ x13 then (if 0 ≤ x6 then (if x6 < (x0.size : Int) then (if (bt (⟨#[70, 83, 82, 80, 65, 85]⟩ : ByteArray) x13) = (bt x0 x6) then (if x13 > x5 then (flags_Parse.l1 k x0 (Go.bits .or .i64 x4 (shl .i64 1 x13)) x13 x6 x9 x10 (wrap64 (x13 + 1))) else (flags_Parse.l1 k x0 x4 x5 x6 x9 x10 (wrap64 (x13 + 1)))) else (flags_Parse.l1 k x0 x4 x5 x6 x9 x10 (wrap64 (x13 + 1)))) else (none)) else (none)) else (none)) else (flags_Parse.l0 k x0 x4 x5 x9 (wrap64 (x10 + 1)))
end
def flags_Parse.f (k : Nat) (a0 : ByteArray) : Option (Int × Bool) := flags_Parse.l0 k a0 0 (-1) (a0.size : Int) 0
theorem flags_Parse.mono_l : ∀ k, (∀ y0 y1 y2 y3 y4, LeO (flags_Parse.l0 k y0 y1 y2 y3 y4) (flags_Parse.l0 (k + 1) y0 y1 y2 y3 y4)) ∧ (∀ y0 y1 y2 y3 y4 y5 y6, LeO (flags_Parse.l1 k y0 y1 y2 y3 y4 y5 y6) (flags_Parse.l1 (k + 1) y0 y1 y2 y3 y4 y5 y6))
  | 0 => ⟨fun _ _ _ _ _ r h => by simp [flags_Parse.l0] at h, fun _ _ _ _ _ _ _ r h => by simp [flags_Parse.l1] at h⟩
  | k + 1 => by
    obtain ⟨ih0, ih1⟩ := flags_Parse.mono_l k
    refine ⟨?_, ?_⟩
    · intro y0 y1 y2 y3 y4
      unfold flags_Parse.l0
      repeat' first
      | (with_reducible exact ih0 _ _ _ _ _)
      | (with_reducible exact ih1 _ _ _ _ _ _ _)
      | (with_reducible exact flags_Show.mono _ _)
      | (with_reducible exact LeO.refl _)
      | (with_reducible exact LeO.none _)
      | (with_reducible refine LeO.ite ?_ ?_)
      | (with_reducible refine LeO.bind ?_ (fun _ => ?_))
      | exact ih0 _ _ _ _ _
      | exact ih1 _ _ _ _ _ _ _
      | exact flags_Show.mono _ _
      | exact LeO.none _
      | refine LeO.ite ?_ ?_
      | refine LeO.bind ?_ (fun _ => ?_)
    · intro y0 y1 y2 y3 y4 y5 y6
      unfold flags_Parse.l1
      repeat' first
      | (with_reducible exact ih0 _ _ _ _ _)
      | (with_reducible exact ih1 _ _ _ _ _ _ _)
      | (with_reducible exact flags_Show.mono _ _)
      | (with_reducible exact LeO.refl _)
      | (with_reducible exact LeO.none _)
      | (with_reducible refine LeO.ite ?_ ?_)
      | (with_reducible refine LeO.bind ?_ (fun _ => ?_))
      | exact ih0 _ _ _ _ _
      | exact ih1 _ _ _ _ _ _ _
      | exact flags_Show.mono _ _
      | exact LeO.none _
      | refine LeO.ite ?_ ?_
      | refine LeO.bind ?_ (fun _ => ?_)
theorem flags_Parse.mono : ∀ a0 k, LeO (flags_Parse.f k a0) (flags_Parse.f (k + 1) a0) := by
  intro a0 k
  obtain ⟨ih0, ih1⟩ := flags_Parse.mono_l k
  unfold flags_Parse.f
  repeat' first
      | (with_reducible exact ih0 _ _ _ _ _)
      | (with_reducible exact ih1 _ _ _ _ _ _ _)
      | (with_reducible exact flags_Show.mono _ _)
      | (with_reducible exact LeO.refl _)
      | (with_reducible exact LeO.none _)
      | (with_reducible refine LeO.ite ?_ ?_)
      | (with_reducible refine LeO.bind ?_ (fun _ => ?_))
      | exact ih0 _ _ _ _ _
      | exact ih1 _ _ _ _ _ _ _
      | exact flags_Show.mono _ _
      | exact LeO.none _
      | refine LeO.ite ?_ ?_
      | refine LeO.bind ?_ (fun _ => ?_)
set_option maxHeartbeats 8000000 in
set_option maxRecDepth 100000 in
theorem flags_Parse.calls (k : Nat) (a0 : ByteArray) (r1 : Int) (r2 : Bool) (w : World) (h : flags_Parse.f k a0 = some (r1, r2)) :
    Calls Try.prog 18 #[.string a0] w fun e w' => e = .returned (.tuple #[.int .i64 r1, .bool r2]) ∧ Drawn0 w w' := by
  have H : (flags_Parse.l0 k a0 0 (-1) (a0.size : Int) 0) = some (r1, r2) := h
  clear h
  have H' := Aside0.mk H
  clear H
  go_enter Try.func18, Try.ntmps18
  go_wp2
  repeat (go_quiet (fail); try go_wp2)
  go_loopg [4, 5, 10] k (fun kq v4 v5 v10 w' => ∃ (x4_1 : Int) (x5_1 : Int) (x10_1 : Int), v4 = .int .i64 x4_1 ∧ v5 = .int .i64 x5_1 ∧ v10 = .int .i64 x10_1 ∧ Aside0 (flags_Parse.l0 kq a0 x4_1 x5_1 (a0.size : Int) x10_1 = some (r1, r2)) ∧ Aside0 (kq ≤ k) ∧ Drawn0 w w')
  case atStart => exact ⟨(0), ((-1)), (0), (by first | rfl | (simp; done) | (simp [*]; done)), (by first | rfl | (simp; done) | (simp [*]; done)), (by first | rfl | (simp; done) | (simp [*]; done)), H', ⟨Nat.le_refl _⟩, by repeat (first | exact Drawn0.refl _ | apply Drawn0.step)⟩
  case round =>
    clear H'
    try clear c1
    obtain ⟨x4_1, x5_1, x10_1, rfl, rfl, rfl, HA, HK1, ⟨m1, rfl⟩⟩ := hrel
    cases gk with
    | zero => exact absurd HA.out (by simp [flags_Parse.l0])
    | succ k1 =>
      have H := HA.out
      clear HA
      simp only [flags_Parse.l0] at H
      by_cases c2 : x10_1 < (a0.size : Int)
      · rw [if_pos c2] at H
        have c2b0 : decide (x10_1 < (a0.size : Int)) = true := decide_eq_true c2
        clear c2
        have H' := Aside0.mk H
        clear H
        go_wp2
        repeat (go_quiet (fail); try go_wp2)
        go_loopg [4, 5, 13] k1 (fun kq v4 v5 v13 w' => ∃ (x4_2 : Int) (x5_2 : Int) (x13_2 : Int), v4 = .int .i64 x4_2 ∧ v5 = .int .i64 x5_2 ∧ v13 = .int .i64 x13_2 ∧ Aside0 (flags_Parse.l1 kq a0 x4_2 x5_2 x10_1 (a0.size : Int) x10_1 x13_2 = some (r1, r2)) ∧ Aside0 (kq ≤ k1) ∧ Drawn0 w w')
        case atStart => exact ⟨(x4_1), (x5_1), (0), (by first | rfl | (simp; done) | (simp [*]; done)), (by first | rfl | (simp; done) | (simp [*]; done)), (by first | rfl | (simp; done) | (simp [*]; done)), H', ⟨Nat.le_refl _⟩, by repeat (first | exact Drawn0.refl _ | apply Drawn0.step)⟩
        case round =>
          clear H'
          try clear c1
          try clear c2
          try clear c2b0
          try clear p2
          obtain ⟨x4_2, x5_2, x13_2, rfl, rfl, rfl, HA, HK2, ⟨m2, rfl⟩⟩ := hrel
          cases gk with
          | zero => exact absurd HA.out (by simp [flags_Parse.l1])
          | succ k2 =>
            have H := HA.out
            clear HA
            simp only [flags_Parse.l1] at H
            by_cases c3 : x13_2 < 6
            · rw [if_pos c3] at H
              have c3b0 : decide (x13_2 < 6) = true := decide_eq_true c3
              clear c3
              by_cases c4 : 0 ≤ x13_2
              · rw [if_pos c4] at H
                have c4b0 : decide (0 ≤ x13_2) = true := decide_eq_true c4
                clear c4
                by_cases c6 : 0 ≤ x10_1
                · rw [if_pos c6] at H
                  have c6b0 : decide (0 ≤ x10_1) = true := decide_eq_true c6
                  clear c6
                  by_cases c7 : x10_1 < (a0.size : Int)
                  · rw [if_pos c7] at H
                    have c7b0 : decide (x10_1 < (a0.size : Int)) = true := decide_eq_true c7
                    clear c7
                    by_cases c9 : (bt (⟨#[70, 83, 82, 80, 65, 85]⟩ : ByteArray) x13_2) = (bt a0 x10_1)
                    · rw [if_pos c9] at H
                      have c9b0 : ((bt (⟨#[70, 83, 82, 80, 65, 85]⟩ : ByteArray) x13_2) == (bt a0 x10_1)) = true := beq_iff_eq.mpr c9
                      have c9b1 : ((bt (⟨#[70, 83, 82, 80, 65, 85]⟩ : ByteArray) x13_2) != (bt a0 x10_1)) = false := bne_eq_false_iff_eq.mpr c9
                      clear c9
                      by_cases c10 : x13_2 > x5_2
                      · rw [if_pos c10] at H
                        have c10b0 : decide (x5_2 < x13_2) = true := decide_eq_true c10
                        clear c10
                        have c11b0 := eq_true (of_decide_eq_true (by first | (with_reducible assumption) | assumption) : 0 ≤ x13_2)
                        obtain ⟨ji12, hji12⟩ : ∃ j_ : Int, (shl .i64 1 x13_2) = j_ := ⟨_, rfl⟩
                        replace H : (flags_Parse.l1 k2 a0 (Go.bits .or .i64 x4_2 (ji12)) x13_2 x10_1 (a0.size : Int) x10_1 (wrap64 (x13_2 + 1))) = some (r1, r2) := by first | (rw [hji12] at H; exact H) | (simp only [hji12] at H ⊢; exact H)
                        have hji12_ : (IntKind.i64.wrap (1 * 2 ^ min x13_2.toNat 64)) = ji12 := hji12
                        have hji12z : x13_2 ≤ 64 → (IntKind.i64.wrap (1 * 2 ^ x13_2.toNat)) = ji12 := shl_small hji12
                        have hji12u : (IntKind.i64.wrap (2 ^ min x13_2.toNat 64)) = ji12 := by have h_ := hji12_; rw [Int.one_mul] at h_; exact h_
                        have hji12v : x13_2 ≤ 64 → (IntKind.i64.wrap (2 ^ x13_2.toNat)) = ji12 := fun hle_ => by have h_ := hji12z hle_; rw [Int.one_mul] at h_; exact h_
                        have hji12y : (wrap64 (1 * 2 ^ min x13_2.toNat 64)) = ji12 := (i64_w _).symm.trans hji12_
                        have hji12x : x13_2 ≤ 64 → (wrap64 (1 * 2 ^ x13_2.toNat)) = ji12 := fun h_ => (i64_w _).symm.trans (hji12z h_)
                        have H' := Aside0.mk H
                        clear H
                        have p5 : 0 ≤ (x13_2 : Int) := of_decide_eq_true (by first | (with_reducible assumption) | assumption)
                        have q5 : x13_2 < (6 : Int) := of_decide_eq_true (by first | (with_reducible assumption) | assumption)
                        have hx5 := bt_at (⟨#[70, 83, 82, 80, 65, 85]⟩ : ByteArray) x13_2
                        replace p5 := eq_true p5
                        replace q5 := eq_true q5
                        have p8 : 0 ≤ (x10_1 : Int) := of_decide_eq_true (by first | (with_reducible assumption) | assumption)
                        have q8 : x10_1 < (a0.size : Int) := of_decide_eq_true (by first | (with_reducible assumption) | assumption)
                        have hx8 := bt_at a0 x10_1
                        replace p8 := eq_true p8
                        replace q8 := eq_true q8
                        go_wp2
                        repeat (go_quiet (fail); try go_wp2)
                        go_roundg k2
                        case measure => have := HK1.out; have := HK2.out; omega
                        case rel => exact ⟨(Go.bits .or .i64 x4_2 (ji12)), (x13_2), (wrap64 (x13_2 + 1)), (by first | rfl | (simp; done) | (simp only [← hji12] <;> (first | rfl | simp)) | (simp [*]; done)), (by first | rfl | (simp; done) | (simp [*]; done)), (by first | rfl | (simp; done) | (simp [*]; done)), H', ⟨by have := HK1.out; have := HK2.out; omega⟩, by repeat (first | exact Drawn0.refl _ | apply Drawn0.step)⟩
                      · rw [if_neg c10] at H
                        have c10b0 : decide (x5_2 < x13_2) = false := decide_eq_false c10
                        clear c10
                        have H' := Aside0.mk H
                        clear H
                        have p5 : 0 ≤ (x13_2 : Int) := of_decide_eq_true (by first | (with_reducible assumption) | assumption)
                        have q5 : x13_2 < (6 : Int) := of_decide_eq_true (by first | (with_reducible assumption) | assumption)
                        have hx5 := bt_at (⟨#[70, 83, 82, 80, 65, 85]⟩ : ByteArray) x13_2
                        replace p5 := eq_true p5
                        replace q5 := eq_true q5
                        have p8 : 0 ≤ (x10_1 : Int) := of_decide_eq_true (by first | (with_reducible assumption) | assumption)
                        have q8 : x10_1 < (a0.size : Int) := of_decide_eq_true (by first | (with_reducible assumption) | assumption)
                        have hx8 := bt_at a0 x10_1
                        replace p8 := eq_true p8
                        replace q8 := eq_true q8
                        go_wp2
                        repeat (go_quiet (fail); try go_wp2)
                        go_roundg k2
                        case measure => have := HK1.out; have := HK2.out; omega
                        case rel => exact ⟨(x4_2), (x5_2), (wrap64 (x13_2 + 1)), (by first | rfl | (simp; done) | (simp [*]; done)), (by first | rfl | (simp; done) | (simp [*]; done)), (by first | rfl | (simp; done) | (simp [*]; done)), H', ⟨by have := HK1.out; have := HK2.out; omega⟩, by repeat (first | exact Drawn0.refl _ | apply Drawn0.step)⟩
                    · rw [if_neg c9] at H
                      have c9b0 : ((bt (⟨#[70, 83, 82, 80, 65, 85]⟩ : ByteArray) x13_2) == (bt a0 x10_1)) = false := beq_eq_false_iff_ne.mpr c9
                      have c9b1 : ((bt (⟨#[70, 83, 82, 80, 65, 85]⟩ : ByteArray) x13_2) != (bt a0 x10_1)) = true := bne_iff_ne.mpr c9
                      have H' := Aside0.mk H
                      clear H
                      have p5 : 0 ≤ (x13_2 : Int) := of_decide_eq_true (by first | (with_reducible assumption) | assumption)
                      have q5 : x13_2 < (6 : Int) := of_decide_eq_true (by first | (with_reducible assumption) | assumption)
                      have hx5 := bt_at (⟨#[70, 83, 82, 80, 65, 85]⟩ : ByteArray) x13_2
                      replace p5 := eq_true p5
                      replace q5 := eq_true q5
                      have p8 : 0 ≤ (x10_1 : Int) := of_decide_eq_true (by first | (with_reducible assumption) | assumption)
                      have q8 : x10_1 < (a0.size : Int) := of_decide_eq_true (by first | (with_reducible assumption) | assumption)
                      have hx8 := bt_at a0 x10_1
                      replace p8 := eq_true p8
                      replace q8 := eq_true q8
                      go_wp2
                      repeat (go_quiet (fail); try go_wp2)
                      go_roundg k2
                      case measure => have := HK1.out; have := HK2.out; omega
                      case rel => exact ⟨(x4_2), (x5_2), (wrap64 (x13_2 + 1)), (by first | rfl | (simp; done) | (simp [*]; done)), (by first | rfl | (simp; done) | (simp [*]; done)), (by first | rfl | (simp; done) | (simp [*]; done)), H', ⟨by have := HK1.out; have := HK2.out; omega⟩, by repeat (first | exact Drawn0.refl _ | apply Drawn0.step)⟩
                  · rw [if_neg c7] at H
                    exact absurd H (by simp)
                · rw [if_neg c6] at H
                  exact absurd H (by simp)
              · rw [if_neg c4] at H
                exact absurd H (by simp)
            · rw [if_neg c3] at H
              have c3b0 : decide (x13_2 < 6) = false := decide_eq_false c3
              clear c3
              have H' := Aside0.mk H
              clear H
              go_wp2
              repeat (go_quiet (fail); try go_wp2)
              go_roundg k2
              case measure => have := HK1.out; have := HK2.out; omega
              case rel => exact ⟨(x4_2), (x5_2), (wrap64 (x10_1 + 1)), (by first | rfl | (simp; done) | (simp [*]; done)), (by first | rfl | (simp; done) | (simp [*]; done)), (by first | rfl | (simp; done) | (simp [*]; done)), H', ⟨by have := HK1.out; have := HK2.out; omega⟩, by repeat (first | exact Drawn0.refl _ | apply Drawn0.step)⟩
      · rw [if_neg c2] at H
        have c2b0 : decide (x10_1 < (a0.size : Int)) = false := decide_eq_false c2
        clear c2
        replace H := Option.bind_eq_some_iff.mp H
        obtain ⟨t109, A130, H⟩ := H
        replace H : (if t109.toList = a0.toList then (some (x4_1, true)) else (some (0, false))) = some (r1, r2) := H
        have A13 := Aside0.mk A130
        clear A130
        by_cases c14 : t109.toList = a0.toList
        · rw [if_pos c14] at H
          have c14b0 : (t109.toList == a0.toList) = true := beq_iff_eq.mpr c14
          have c14b1 : (t109.toList != a0.toList) = false := bne_eq_false_iff_eq.mpr c14
          clear c14
          simp only [Option.some.injEq, Prod.mk.injEq] at H
          obtain ⟨rfl, rfl⟩ := H
          go_wp2_with (first | (go_at_call 20; (with_reducible refine (flags_Show.calls k1 x4_1 t109 _ A13.out).mono ?_); rintro e w' ⟨rfl, ⟨nd, rfl⟩⟩; (try first | exact ⟨rfl, _, World.drewN_drewN _ _ _⟩ | exact ⟨rfl, _, Eq.trans (World.drewN_drewN _ _ _) (congrArg (World.drewN _) (Nat.add_assoc _ _ _))⟩)))
          repeat (go_quiet (first | (go_at_call 20; (with_reducible refine (flags_Show.calls k1 x4_1 t109 _ A13.out).mono ?_); rintro e w' ⟨rfl, ⟨nd, rfl⟩⟩; (try first | exact ⟨rfl, _, World.drewN_drewN _ _ _⟩ | exact ⟨rfl, _, Eq.trans (World.drewN_drewN _ _ _) (congrArg (World.drewN _) (Nat.add_assoc _ _ _))⟩))); try go_wp2_with (first | (go_at_call 20; (with_reducible refine (flags_Show.calls k1 x4_1 t109 _ A13.out).mono ?_); rintro e w' ⟨rfl, ⟨nd, rfl⟩⟩; (try first | exact ⟨rfl, _, World.drewN_drewN _ _ _⟩ | exact ⟨rfl, _, Eq.trans (World.drewN_drewN _ _ _) (congrArg (World.drewN _) (Nat.add_assoc _ _ _))⟩))))
          go_ret2
          exact ⟨by first | rfl | (simp; done) | (simp [*]; done), by repeat (first | exact Drawn0.refl _ | apply Drawn0.step)⟩
        · rw [if_neg c14] at H
          have c14b0 : (t109.toList == a0.toList) = false := beq_eq_false_iff_ne.mpr c14
          have c14b1 : (t109.toList != a0.toList) = true := bne_iff_ne.mpr c14
          simp only [Option.some.injEq, Prod.mk.injEq] at H
          obtain ⟨rfl, rfl⟩ := H
          go_wp2_with (first | (go_at_call 20; (with_reducible refine (flags_Show.calls k1 x4_1 t109 _ A13.out).mono ?_); rintro e w' ⟨rfl, ⟨nd, rfl⟩⟩; (try first | exact ⟨rfl, _, World.drewN_drewN _ _ _⟩ | exact ⟨rfl, _, Eq.trans (World.drewN_drewN _ _ _) (congrArg (World.drewN _) (Nat.add_assoc _ _ _))⟩)))
          repeat (go_quiet (first | (go_at_call 20; (with_reducible refine (flags_Show.calls k1 x4_1 t109 _ A13.out).mono ?_); rintro e w' ⟨rfl, ⟨nd, rfl⟩⟩; (try first | exact ⟨rfl, _, World.drewN_drewN _ _ _⟩ | exact ⟨rfl, _, Eq.trans (World.drewN_drewN _ _ _) (congrArg (World.drewN _) (Nat.add_assoc _ _ _))⟩))); try go_wp2_with (first | (go_at_call 20; (with_reducible refine (flags_Show.calls k1 x4_1 t109 _ A13.out).mono ?_); rintro e w' ⟨rfl, ⟨nd, rfl⟩⟩; (try first | exact ⟨rfl, _, World.drewN_drewN _ _ _⟩ | exact ⟨rfl, _, Eq.trans (World.drewN_drewN _ _ _) (congrArg (World.drewN _) (Nat.add_assoc _ _ _))⟩))))
          go_ret2
          exact ⟨by first | rfl | (simp; done) | (simp [*]; done), by repeat (first | exact Drawn0.refl _ | apply Drawn0.step)⟩

end Go.Proofs.Ytaemgicmbnmecaa.PAll
