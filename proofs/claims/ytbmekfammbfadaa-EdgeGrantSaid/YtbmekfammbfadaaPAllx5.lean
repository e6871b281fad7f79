-- Written by a program of this work (wip/mkprint.py, wip/myprint.sh) out of the translation; not trusted: Lean checks it.
import Derived.Test.YtbmekfammbfadaaPAllx0
import Derived.Test.YtbmekfammbfadaaPAllx1
import Derived.Test.YtbmekfammbfadaaPAllx2
namespace Go.Proofs.Ytbmekfammbfadaa.PAll
open Go.RowKit Go.Proofs.YtbmekfammbfadaaW.PrintWords Go.Proofs.YtbmekfammbfadaaW.PrintLast Go.Proofs.YtbmekfammbfadaaW.PrintMore
attribute [local go_sem] max2_int min2_int max_two min_two max_three min_three max_four min_four   -- for this text's walks alone
set_option linter.unusedVariables false
set_option linter.unusedSimpArgs false

/-! ### rampartlaw03_SeqnNear: function 6 -/
def rampartlaw03_SeqnNear.j0 : Nat → Int → Int → Bool → Option (Bool)
  | 0, _, _, _ => none
  | k + 1, x0, x1, x12 => if x12 = true then ((rampartlaw03_known.f).bind fun t158 => (some t158)) else ((seqn_Near.f x0 ((wrap64 (x0 + (wrap64 (x1)))) % 4294967296)).bind fun t159 => (if t159 = (wrap64 (x0 + (wrap64 (x1)))) then ((seqn_Near.f x0 ((x0) % 4294967296)).bind fun t160 => (if t160 = x0 then (if ((t159) % 4294967296) = ((wrap64 (x0 + (wrap64 (x1)))) % 4294967296) then ((rampartlaw03_known.f).bind fun t161 => (some t161)) else (some false)) else (some false))) else (some false)))
def rampartlaw03_SeqnNear.f (k : Nat) (a0 : Int) (a1 : Int) : Option (Bool) := if a0 < 4294967296 then (rampartlaw03_SeqnNear.j0 k a0 a1 true) else (rampartlaw03_SeqnNear.j0 k a0 a1 (decide (a0 > 576460752303423488)))
theorem rampartlaw03_SeqnNear.mono_l : ∀ k, (∀ y0 y1 y2, LeO (rampartlaw03_SeqnNear.j0 k y0 y1 y2) (rampartlaw03_SeqnNear.j0 (k + 1) y0 y1 y2))
  | 0 => fun _ _ _ r h => by simp [rampartlaw03_SeqnNear.j0] at h
  | k + 1 => by
    have ih0 := rampartlaw03_SeqnNear.mono_l k
    · intro y0 y1 y2
      unfold rampartlaw03_SeqnNear.j0
      repeat' first
      | (with_reducible exact ih0 _ _ _)
      | (with_reducible exact LeO.refl _)
      | (with_reducible exact LeO.none _)
      | (with_reducible refine LeO.ite ?_ ?_)
      | (with_reducible refine LeO.bind ?_ (fun _ => ?_))
      | exact ih0 _ _ _
      | exact LeO.none _
      | refine LeO.ite ?_ ?_
      | refine LeO.bind ?_ (fun _ => ?_)
theorem rampartlaw03_SeqnNear.mono : ∀ a0 a1 k, LeO (rampartlaw03_SeqnNear.f k a0 a1) (rampartlaw03_SeqnNear.f (k + 1) a0 a1) := by
  intro a0 a1 k
  have ih0 := rampartlaw03_SeqnNear.mono_l k
  unfold rampartlaw03_SeqnNear.f
  repeat' first
      | (with_reducible exact ih0 _ _ _)
      | (with_reducible exact LeO.refl _)
      | (with_reducible exact LeO.none _)
      | (with_reducible refine LeO.ite ?_ ?_)
      | (with_reducible refine LeO.bind ?_ (fun _ => ?_))
      | exact ih0 _ _ _
      | exact LeO.none _
      | refine LeO.ite ?_ ?_
      | refine LeO.bind ?_ (fun _ => ?_)
set_option maxHeartbeats 8000000 in
set_option maxRecDepth 100000 in
theorem rampartlaw03_SeqnNear.calls (k : Nat) (a0 : Int) (a1 : Int) (w : World) (h : rampartlaw03_SeqnNear.f k a0 a1 = some true) :
    Calls Try.prog 6 #[.int .i64 a0, .int .i32 a1] w fun e w' => e = .returned (.bool true) ∧ Drawn0 w w' := by
  have H : (if a0 < 4294967296 then (rampartlaw03_SeqnNear.j0 k a0 a1 true) else (rampartlaw03_SeqnNear.j0 k a0 a1 (decide (a0 > 576460752303423488)))) = some true := h
  clear h
  have HC3 := Aside0.mk H
  clear H
  go_enter Try.func6, Try.ntmps6
  go_upto_region 1 with (fail)
  go_cut [12] (fun v12 wc => ∃ (kq : Nat) (x12_2 : Bool), v12 = .bool x12_2 ∧ Aside0 (rampartlaw03_SeqnNear.j0 kq a0 a1 x12_2 = some true) ∧ Aside0 (kq ≤ k) ∧ Drawn0 w wc)
  case first =>
    have H := HC3.out
    clear HC3
    by_cases c4 : a0 < 4294967296
    · rw [if_pos c4] at H
      have c4b0 : decide (a0 < 4294967296) = true := decide_eq_true c4
      clear c4
      (first | rw [c4b0] | (simp only [i64_w, i32_w]; rw [c4b0]) | skip)
      have H' := Aside0.mk H
      clear H
      go_wp2
      go_meet
      case rel => exact ⟨_, (true), (by first | rfl | (simp; done) | (simp [*]; done)), H', ⟨by first | omega | exact Nat.le_refl _⟩, by repeat (first | exact Drawn0.refl _ | apply Drawn0.step)⟩
    · rw [if_neg c4] at H
      have c4b0 : decide (a0 < 4294967296) = false := decide_eq_false c4
      clear c4
      (first | rw [c4b0] | (simp only [i64_w, i32_w]; rw [c4b0]) | skip)
      have H' := Aside0.mk H
      clear H
      go_wp2
      go_meet
      case rel => exact ⟨_, (decide (a0 > 576460752303423488)), (by first | rfl | (simp; done) | (simp [*]; done)), H', ⟨by first | omega | exact Nat.le_refl _⟩, by repeat (first | exact Drawn0.refl _ | apply Drawn0.step)⟩
  case rest =>
    clear HC3
    try clear p2
    try clear c4
    try clear c4b0
    obtain ⟨kq, x12_2, rfl, HA, HJ2, ⟨mc2, rfl⟩⟩ := hcut
    cases kq with
    | zero => exact absurd HA.out (by simp [rampartlaw03_SeqnNear.j0])
    | succ kj2 =>
      have H := HA.out
      clear HA
      simp only [rampartlaw03_SeqnNear.j0] at H
      by_cases c5 : x12_2 = true
      · subst c5
        have H1 : ((rampartlaw03_known.f).bind fun t158 => (some t158)) = some true := by rw [if_pos rfl] at H; exact H
        clear H
        have H := H1
        clear H1
        replace H := Option.bind_eq_some_iff.mp H
        obtain ⟨t158, A60, H⟩ := H
        replace H : (some t158) = some true := H
        have A6 := Aside0.mk A60
        clear A60
        have hrt_ := Option.some.inj H
        go_wp2_with (first | ((with_reducible refine gate_callee (f := 28) rfl ?_); refine goesL_ (some 13) rfl rfl Try.func28 (by kernel_rfl) rfl #[] rfl (by (try simp only [List.map_toArray, List.map_cons, List.map_nil]); first | done | rfl | (simp only [List.length_drop, List.length_take]; rfl)) ?_; (with_reducible refine (rampartlaw03_known.calls  t158 _ A6.out).mono ?_); rintro e w' ⟨rfl, ⟨nd, rfl⟩⟩; refine ⟨_, rfl, ?_⟩))
        go_ret
        exact ⟨by first | rfl | (simp; done) | (simp [*]; done), by repeat (first | exact Drawn0.refl _ | apply Drawn0.step)⟩
      · replace c5 := Bool.eq_false_iff.mpr c5
        subst c5
        have H1 : ((seqn_Near.f a0 ((wrap64 (a0 + (wrap64 (a1)))) % 4294967296)).bind fun t159 => (if t159 = (wrap64 (a0 + (wrap64 (a1)))) then ((seqn_Near.f a0 ((a0) % 4294967296)).bind fun t160 => (if t160 = a0 then (if ((t159) % 4294967296) = ((wrap64 (a0 + (wrap64 (a1)))) % 4294967296) then ((rampartlaw03_known.f).bind fun t161 => (some t161)) else (some false)) else (some false))) else (some false))) = some true := by rw [if_neg (show ¬ (false = true) by decide)] at H; exact H
        clear H
        have H := H1
        clear H1
        replace H := Option.bind_eq_some_iff.mp H
        obtain ⟨t159, A70, H⟩ := H
        replace H : (if t159 = (wrap64 (a0 + (wrap64 (a1)))) then ((seqn_Near.f a0 ((a0) % 4294967296)).bind fun t160 => (if t160 = a0 then (if ((t159) % 4294967296) = ((wrap64 (a0 + (wrap64 (a1)))) % 4294967296) then ((rampartlaw03_known.f).bind fun t161 => (some t161)) else (some false)) else (some false))) else (some false)) = some true := H
        have A7 := Aside0.mk A70
        clear A70
        by_cases c8 : t159 = (wrap64 (a0 + (wrap64 (a1))))
        · rw [if_pos c8] at H
          have c8b0 : (t159 == (wrap64 (a0 + (wrap64 (a1))))) = true := beq_iff_eq.mpr c8
          have c8b1 : (t159 != (wrap64 (a0 + (wrap64 (a1))))) = false := bne_eq_false_iff_eq.mpr c8
          clear c8
          replace H := Option.bind_eq_some_iff.mp H
          obtain ⟨t160, A90, H⟩ := H
          replace H : (if t160 = a0 then (if ((t159) % 4294967296) = ((wrap64 (a0 + (wrap64 (a1)))) % 4294967296) then ((rampartlaw03_known.f).bind fun t161 => (some t161)) else (some false)) else (some false)) = some true := H
          have A9 := Aside0.mk A90
          clear A90
          by_cases c10 : t160 = a0
          · rw [if_pos c10] at H
            have c10b0 : (t160 == a0) = true := beq_iff_eq.mpr c10
            have c10b1 : (t160 != a0) = false := bne_eq_false_iff_eq.mpr c10
            clear c10
            by_cases c11 : ((t159) % 4294967296) = ((wrap64 (a0 + (wrap64 (a1)))) % 4294967296)
            · rw [if_pos c11] at H
              have c11b0 : (((t159) % 4294967296) == ((wrap64 (a0 + (wrap64 (a1)))) % 4294967296)) = true := beq_iff_eq.mpr c11
              have c11b1 : (((t159) % 4294967296) != ((wrap64 (a0 + (wrap64 (a1)))) % 4294967296)) = false := bne_eq_false_iff_eq.mpr c11
              clear c11
              replace H := Option.bind_eq_some_iff.mp H
              obtain ⟨t161, A120, H⟩ := H
              replace H : (some t161) = some true := H
              have A12 := Aside0.mk A120
              clear A120
              have hrt_ := Option.some.inj H
              go_wp2_with (first | ((with_reducible refine gate_callee (f := 24) rfl ?_); refine goesL_ (some 21) rfl rfl Try.func24 (by kernel_rfl) rfl #[.int .i64 a0, .int .u32 ((wrap64 (a0 + (wrap64 (a1)))) % 4294967296)] rfl (by (try simp only [List.map_toArray, List.map_cons, List.map_nil]); first | done | rfl | (simp only [List.length_drop, List.length_take]; rfl)) ?_; (with_reducible refine (seqn_Near.calls a0 ((wrap64 (a0 + (wrap64 (a1)))) % 4294967296) t159 _ A7.out).mono ?_); rintro e w' ⟨rfl, ⟨nd, rfl⟩⟩; refine ⟨_, rfl, ?_⟩) | (go_at_call 24; (with_reducible refine (seqn_Near.calls a0 ((a0) % 4294967296) t160 _ A9.out).mono ?_); rintro e w' ⟨rfl, ⟨nd, rfl⟩⟩) | (go_at_call 28; (with_reducible refine (rampartlaw03_known.calls  t161 _ A12.out).mono ?_); rintro e w' ⟨rfl, ⟨nd, rfl⟩⟩))
              go_ret
              exact ⟨by first | rfl | (simp; done) | (simp [*]; done), by repeat (first | exact Drawn0.refl _ | apply Drawn0.step)⟩
            · rw [if_neg c11] at H
              have c11b0 : (((t159) % 4294967296) == ((wrap64 (a0 + (wrap64 (a1)))) % 4294967296)) = false := beq_eq_false_iff_ne.mpr c11
              have c11b1 : (((t159) % 4294967296) != ((wrap64 (a0 + (wrap64 (a1)))) % 4294967296)) = true := bne_iff_ne.mpr c11
              exact absurd H (by simp)
          · rw [if_neg c10] at H
            have c10b0 : (t160 == a0) = false := beq_eq_false_iff_ne.mpr c10
            have c10b1 : (t160 != a0) = true := bne_iff_ne.mpr c10
            exact absurd H (by simp)
        · rw [if_neg c8] at H
          have c8b0 : (t159 == (wrap64 (a0 + (wrap64 (a1))))) = false := beq_eq_false_iff_ne.mpr c8
          have c8b1 : (t159 != (wrap64 (a0 + (wrap64 (a1))))) = true := bne_iff_ne.mpr c8
          exact absurd H (by simp)

/-- THE ONE PURE STATEMENT of rampartlaw03_SeqnNear: yours. -/
def rampartlaw03_SeqnNear.Pure : Prop := ∀ (a0 : Int) (a1 : Int), (Lit.int .i64 a0).wf = true → (Lit.int .i32 a1).wf = true → ∃ k, rampartlaw03_SeqnNear.f k a0 a1 = some true
theorem rampartlaw03_SeqnNear.walk (P : rampartlaw03_SeqnNear.Pure) (a0 : Int) (a1 : Int) (w : World) (w0 : (Lit.int .i64 a0).wf = true) (w1 : (Lit.int .i32 a1).wf = true) :
    Calls Try.prog 6 #[.int .i64 a0, .int .i32 a1] w fun e w' => e = .returned (.bool true) ∧ Below w.heap.size w w' := by
  obtain ⟨k, h⟩ := P a0 a1 w0 w1
  refine (rampartlaw03_SeqnNear.calls k a0 a1 w h).mono ?_
  rintro e w' ⟨rfl, hd⟩
  exact ⟨rfl, hd.below⟩

/-! ### rampartlaw03_SeqnWithin: function 7 -/
def rampartlaw03_SeqnWithin.f (a0 : Int) (a1 : Int) (a2 : Int) : Option (Bool) := (seqn_Step.f a0 (wrap64 (a2))).bind fun t162 => ((seqn_Step.f a0 (wrap64 ((-1) - (wrap64 (a2))))).bind fun t163 => ((seqn_Within.f t162 a0 (wrap64 (a1))).bind fun t164 => (if (t164 == (decide (a2 < a1))) = true then ((seqn_Within.f t163 a0 (wrap64 (a1))).bind fun t165 => (if t165 = true then (some false) else ((seqn_Within.f t163 a0 4294967296).bind fun t166 => (if t166 = true then ((seqn_Within.f t162 a0 0).bind fun t167 => (if t167 = true then (some false) else ((rampartlaw03_known.f).bind fun t168 => (some t168)))) else (some false))))) else (some false))))
set_option maxHeartbeats 8000000 in
set_option maxRecDepth 100000 in
theorem rampartlaw03_SeqnWithin.calls (a0 : Int) (a1 : Int) (a2 : Int) (w : World) (h : rampartlaw03_SeqnWithin.f a0 a1 a2 = some true) :
    Calls Try.prog 7 #[.int .u32 a0, .int .u16 a1, .int .u16 a2] w fun e w' => e = .returned (.bool true) ∧ Drawn0 w w' := by
  have H : ((seqn_Step.f a0 (wrap64 (a2))).bind fun t162 => ((seqn_Step.f a0 (wrap64 ((-1) - (wrap64 (a2))))).bind fun t163 => ((seqn_Within.f t162 a0 (wrap64 (a1))).bind fun t164 => (if (t164 == (decide (a2 < a1))) = true then ((seqn_Within.f t163 a0 (wrap64 (a1))).bind fun t165 => (if t165 = true then (some false) else ((seqn_Within.f t163 a0 4294967296).bind fun t166 => (if t166 = true then ((seqn_Within.f t162 a0 0).bind fun t167 => (if t167 = true then (some false) else ((rampartlaw03_known.f).bind fun t168 => (some t168)))) else (some false))))) else (some false))))) = some true := h
  clear h
  replace H := Option.bind_eq_some_iff.mp H
  obtain ⟨t162, A40, H⟩ := H
  replace H : ((seqn_Step.f a0 (wrap64 ((-1) - (wrap64 (a2))))).bind fun t163 => ((seqn_Within.f t162 a0 (wrap64 (a1))).bind fun t164 => (if (t164 == (decide (a2 < a1))) = true then ((seqn_Within.f t163 a0 (wrap64 (a1))).bind fun t165 => (if t165 = true then (some false) else ((seqn_Within.f t163 a0 4294967296).bind fun t166 => (if t166 = true then ((seqn_Within.f t162 a0 0).bind fun t167 => (if t167 = true then (some false) else ((rampartlaw03_known.f).bind fun t168 => (some t168)))) else (some false))))) else (some false)))) = some true := H
  have A4 := Aside0.mk A40
  clear A40
  replace H := Option.bind_eq_some_iff.mp H
  obtain ⟨t163, A50, H⟩ := H
  replace H : ((seqn_Within.f t162 a0 (wrap64 (a1))).bind fun t164 => (if (t164 == (decide (a2 < a1))) = true then ((seqn_Within.f t163 a0 (wrap64 (a1))).bind fun t165 => (if t165 = true then (some false) else ((seqn_Within.f t163 a0 4294967296).bind fun t166 => (if t166 = true then ((seqn_Within.f t162 a0 0).bind fun t167 => (if t167 = true then (some false) else ((rampartlaw03_known.f).bind fun t168 => (some t168)))) else (some false))))) else (some false))) = some true := H
  have A5 := Aside0.mk A50
  clear A50
  replace H := Option.bind_eq_some_iff.mp H
  obtain ⟨t164, A60, H⟩ := H
  replace H : (if (t164 == (decide (a2 < a1))) = true then ((seqn_Within.f t163 a0 (wrap64 (a1))).bind fun t165 => (if t165 = true then (some false) else ((seqn_Within.f t163 a0 4294967296).bind fun t166 => (if t166 = true then ((seqn_Within.f t162 a0 0).bind fun t167 => (if t167 = true then (some false) else ((rampartlaw03_known.f).bind fun t168 => (some t168)))) else (some false))))) else (some false)) = some true := H
  have A6 := Aside0.mk A60
  clear A60
  by_cases c7 : (t164 == (decide (a2 < a1))) = true
  · rw [if_pos c7] at H
    have c7b0 : (t164 == (decide (a2 < a1))) = true := c7
    (try (have c7b1 : decide (t164 = (decide (a2 < a1))) = true := by simpa using c7))
    (try (have c7b2 : (t164 == (decide (a2 < a1))) = true := by simpa using c7))
    clear c7
    replace H := Option.bind_eq_some_iff.mp H
    obtain ⟨t165, A80, H⟩ := H
    replace H : (if t165 = true then (some false) else ((seqn_Within.f t163 a0 4294967296).bind fun t166 => (if t166 = true then ((seqn_Within.f t162 a0 0).bind fun t167 => (if t167 = true then (some false) else ((rampartlaw03_known.f).bind fun t168 => (some t168)))) else (some false)))) = some true := H
    have A8 := Aside0.mk A80
    clear A80
    by_cases c9 : t165 = true
    · subst c9
      have H1 : (some false) = some true := by rw [if_pos rfl] at H; exact H
      clear H
      have H := H1
      clear H1
      exact absurd H (by simp)
    · replace c9 := Bool.eq_false_iff.mpr c9
      subst c9
      have H1 : ((seqn_Within.f t163 a0 4294967296).bind fun t166 => (if t166 = true then ((seqn_Within.f t162 a0 0).bind fun t167 => (if t167 = true then (some false) else ((rampartlaw03_known.f).bind fun t168 => (some t168)))) else (some false))) = some true := by rw [if_neg (show ¬ (false = true) by decide)] at H; exact H
      clear H
      have H := H1
      clear H1
      replace H := Option.bind_eq_some_iff.mp H
      obtain ⟨t166, A100, H⟩ := H
      replace H : (if t166 = true then ((seqn_Within.f t162 a0 0).bind fun t167 => (if t167 = true then (some false) else ((rampartlaw03_known.f).bind fun t168 => (some t168)))) else (some false)) = some true := H
      have A10 := Aside0.mk A100
      clear A100
      by_cases c11 : t166 = true
      · subst c11
        have H1 : ((seqn_Within.f t162 a0 0).bind fun t167 => (if t167 = true then (some false) else ((rampartlaw03_known.f).bind fun t168 => (some t168)))) = some true := by rw [if_pos rfl] at H; exact H
        clear H
        have H := H1
        clear H1
        replace H := Option.bind_eq_some_iff.mp H
        obtain ⟨t167, A120, H⟩ := H
        replace H : (if t167 = true then (some false) else ((rampartlaw03_known.f).bind fun t168 => (some t168))) = some true := H
        have A12 := Aside0.mk A120
        clear A120
        by_cases c13 : t167 = true
        · subst c13
          have H1 : (some false) = some true := by rw [if_pos rfl] at H; exact H
          clear H
          have H := H1
          clear H1
          exact absurd H (by simp)
        · replace c13 := Bool.eq_false_iff.mpr c13
          subst c13
          have H1 : ((rampartlaw03_known.f).bind fun t168 => (some t168)) = some true := by rw [if_neg (show ¬ (false = true) by decide)] at H; exact H
          clear H
          have H := H1
          clear H1
          replace H := Option.bind_eq_some_iff.mp H
          obtain ⟨t168, A140, H⟩ := H
          replace H : (some t168) = some true := H
          have A14 := Aside0.mk A140
          clear A140
          have hrt_ := Option.some.inj H
          go_enter Try.func7, Try.ntmps7
          go_wp2_with (first | ((with_reducible refine gate_callee (f := 26) rfl ?_); refine goesL_ (some 12) rfl rfl Try.func26 (by kernel_rfl) rfl #[.int .u32 a0, .int .i64 (wrap64 (a2))] rfl (by (try simp only [List.map_toArray, List.map_cons, List.map_nil]); first | done | rfl | (simp only [List.length_drop, List.length_take]; rfl)) ?_; (with_reducible refine (seqn_Step.calls a0 (wrap64 (a2)) t162 _ A4.out).mono ?_); rintro e w' ⟨rfl, ⟨nd, rfl⟩⟩; refine ⟨_, rfl, ?_⟩) | ((with_reducible refine gate_callee (f := 26) rfl ?_); refine goesL_ (some 17) rfl rfl Try.func26 (by kernel_rfl) rfl #[.int .u32 a0, .int .i64 (wrap64 ((-1) - (wrap64 (a2))))] rfl (by (try simp only [List.map_toArray, List.map_cons, List.map_nil]); first | done | rfl | (simp only [List.length_drop, List.length_take]; rfl)) ?_; (with_reducible refine (seqn_Step.calls a0 (wrap64 ((-1) - (wrap64 (a2)))) t163 _ A5.out).mono ?_); rintro e w' ⟨rfl, ⟨nd, rfl⟩⟩; refine ⟨_, rfl, ?_⟩) | ((with_reducible refine gate_callee (f := 22) rfl ?_); refine goesL_ (some 22) rfl rfl Try.func22 (by kernel_rfl) rfl #[.int .u32 t162, .int .u32 a0, .int .i64 (wrap64 (a1))] rfl (by (try simp only [List.map_toArray, List.map_cons, List.map_nil]); first | done | rfl | (simp only [List.length_drop, List.length_take]; rfl)) ?_; (with_reducible refine (seqn_Within.calls t162 a0 (wrap64 (a1)) t164 _ A6.out).mono ?_); rintro e w' ⟨rfl, ⟨nd, rfl⟩⟩; refine ⟨_, rfl, ?_⟩) | (go_at_call 22; (with_reducible refine (seqn_Within.calls t163 a0 (wrap64 (a1)) false _ A8.out).mono ?_); rintro e w' ⟨rfl, ⟨nd, rfl⟩⟩) | (go_at_call 22; (with_reducible refine (seqn_Within.calls t163 a0 4294967296 true _ A10.out).mono ?_); rintro e w' ⟨rfl, ⟨nd, rfl⟩⟩) | (go_at_call 22; (with_reducible refine (seqn_Within.calls t162 a0 0 false _ A12.out).mono ?_); rintro e w' ⟨rfl, ⟨nd, rfl⟩⟩) | (go_at_call 28; (with_reducible refine (rampartlaw03_known.calls  t168 _ A14.out).mono ?_); rintro e w' ⟨rfl, ⟨nd, rfl⟩⟩))
          go_ret
          exact ⟨by first | rfl | (simp; done) | (simp [*]; done), by repeat (first | exact Drawn0.refl _ | apply Drawn0.step)⟩
      · replace c11 := Bool.eq_false_iff.mpr c11
        subst c11
        have H1 : (some false) = some true := by rw [if_neg (show ¬ (false = true) by decide)] at H; exact H
        clear H
        have H := H1
        clear H1
        exact absurd H (by simp)
  · rw [if_neg c7] at H
    have c7b0 : (t164 == (decide (a2 < a1))) = false := by simpa using c7
    (try (have c7b1 : decide (t164 = (decide (a2 < a1))) = false := by simpa using c7))
    (try (have c7b2 : (t164 == (decide (a2 < a1))) = false := by simpa using c7))
    (try (have c7b3 : ¬ (t164 = (decide (a2 < a1))) := by simpa using c7))
    clear c7
    exact absurd H (by simp)

/-- THE ONE PURE STATEMENT of rampartlaw03_SeqnWithin: yours. -/
def rampartlaw03_SeqnWithin.Pure : Prop := ∀ (a0 : Int) (a1 : Int) (a2 : Int), (Lit.int .u32 a0).wf = true → (Lit.int .u16 a1).wf = true → (Lit.int .u16 a2).wf = true → rampartlaw03_SeqnWithin.f a0 a1 a2 = some true
theorem rampartlaw03_SeqnWithin.walk (P : rampartlaw03_SeqnWithin.Pure) (a0 : Int) (a1 : Int) (a2 : Int) (w : World) (w0 : (Lit.int .u32 a0).wf = true) (w1 : (Lit.int .u16 a1).wf = true) (w2 : (Lit.int .u16 a2).wf = true) :
    Calls Try.prog 7 #[.int .u32 a0, .int .u16 a1, .int .u16 a2] w fun e w' => e = .returned (.bool true) ∧ Below w.heap.size w w' := by
  have h := P a0 a1 a2 w0 w1 w2
  refine (rampartlaw03_SeqnWithin.calls a0 a1 a2 w h).mono ?_
  rintro e w' ⟨rfl, hd⟩
  exact ⟨rfl, hd.below⟩

/-! ### rampartlaw03_SeqnLater: function 8 -/
def rampartlaw03_SeqnLater.f (a0 : Int) (a1 : Int) (a2 : Int) : Option (Bool) := (seqn_Step.f a0 (wrap64 (a1))).bind fun t169 => ((seqn_Step.f t169 (wrap64 (a2))).bind fun t170 => ((seqn_Later.f t169 t170).bind fun t171 => ((seqn_Later.f a0 t171).bind fun t172 => ((seqn_Later.f t170 a0).bind fun t173 => ((seqn_Later.f t173 t169).bind fun t174 => (if t172 = t174 then (if t172 = t170 then ((seqn_Later.f t169 a0).bind fun t175 => (if t175 = t169 then ((rampartlaw03_known.f).bind fun t176 => (some t176)) else (some false))) else (some false)) else (some false)))))))
set_option maxHeartbeats 8000000 in
set_option maxRecDepth 100000 in
theorem rampartlaw03_SeqnLater.calls (a0 : Int) (a1 : Int) (a2 : Int) (w : World) (h : rampartlaw03_SeqnLater.f a0 a1 a2 = some true) :
    Calls Try.prog 8 #[.int .u32 a0, .int .u16 a1, .int .u16 a2] w fun e w' => e = .returned (.bool true) ∧ Drawn0 w w' := by
  have H : ((seqn_Step.f a0 (wrap64 (a1))).bind fun t169 => ((seqn_Step.f t169 (wrap64 (a2))).bind fun t170 => ((seqn_Later.f t169 t170).bind fun t171 => ((seqn_Later.f a0 t171).bind fun t172 => ((seqn_Later.f t170 a0).bind fun t173 => ((seqn_Later.f t173 t169).bind fun t174 => (if t172 = t174 then (if t172 = t170 then ((seqn_Later.f t169 a0).bind fun t175 => (if t175 = t169 then ((rampartlaw03_known.f).bind fun t176 => (some t176)) else (some false))) else (some false)) else (some false)))))))) = some true := h
  clear h
  replace H := Option.bind_eq_some_iff.mp H
  obtain ⟨t169, A40, H⟩ := H
  replace H : ((seqn_Step.f t169 (wrap64 (a2))).bind fun t170 => ((seqn_Later.f t169 t170).bind fun t171 => ((seqn_Later.f a0 t171).bind fun t172 => ((seqn_Later.f t170 a0).bind fun t173 => ((seqn_Later.f t173 t169).bind fun t174 => (if t172 = t174 then (if t172 = t170 then ((seqn_Later.f t169 a0).bind fun t175 => (if t175 = t169 then ((rampartlaw03_known.f).bind fun t176 => (some t176)) else (some false))) else (some false)) else (some false))))))) = some true := H
  have A4 := Aside0.mk A40
  clear A40
  replace H := Option.bind_eq_some_iff.mp H
  obtain ⟨t170, A50, H⟩ := H
  replace H : ((seqn_Later.f t169 t170).bind fun t171 => ((seqn_Later.f a0 t171).bind fun t172 => ((seqn_Later.f t170 a0).bind fun t173 => ((seqn_Later.f t173 t169).bind fun t174 => (if t172 = t174 then (if t172 = t170 then ((seqn_Later.f t169 a0).bind fun t175 => (if t175 = t169 then ((rampartlaw03_known.f).bind fun t176 => (some t176)) else (some false))) else (some false)) else (some false)))))) = some true := H
  have A5 := Aside0.mk A50
  clear A50
  replace H := Option.bind_eq_some_iff.mp H
  obtain ⟨t171, A60, H⟩ := H
  replace H : ((seqn_Later.f a0 t171).bind fun t172 => ((seqn_Later.f t170 a0).bind fun t173 => ((seqn_Later.f t173 t169).bind fun t174 => (if t172 = t174 then (if t172 = t170 then ((seqn_Later.f t169 a0).bind fun t175 => (if t175 = t169 then ((rampartlaw03_known.f).bind fun t176 => (some t176)) else (some false))) else (some false)) else (some false))))) = some true := H
  have A6 := Aside0.mk A60
  clear A60
  replace H := Option.bind_eq_some_iff.mp H
  obtain ⟨t172, A70, H⟩ := H
  replace H : ((seqn_Later.f t170 a0).bind fun t173 => ((seqn_Later.f t173 t169).bind fun t174 => (if t172 = t174 then (if t172 = t170 then ((seqn_Later.f t169 a0).bind fun t175 => (if t175 = t169 then ((rampartlaw03_known.f).bind fun t176 => (some t176)) else (some false))) else (some false)) else (some false)))) = some true := H
  have A7 := Aside0.mk A70
  clear A70
  replace H := Option.bind_eq_some_iff.mp H
  obtain ⟨t173, A80, H⟩ := H
  replace H : ((seqn_Later.f t173 t169).bind fun t174 => (if t172 = t174 then (if t172 = t170 then ((seqn_Later.f t169 a0).bind fun t175 => (if t175 = t169 then ((rampartlaw03_known.f).bind fun t176 => (some t176)) else (some false))) else (some false)) else (some false))) = some true := H
  have A8 := Aside0.mk A80
  clear A80
  replace H := Option.bind_eq_some_iff.mp H
  obtain ⟨t174, A90, H⟩ := H
  replace H : (if t172 = t174 then (if t172 = t170 then ((seqn_Later.f t169 a0).bind fun t175 => (if t175 = t169 then ((rampartlaw03_known.f).bind fun t176 => (some t176)) else (some false))) else (some false)) else (some false)) = some true := H
  have A9 := Aside0.mk A90
  clear A90
  by_cases c10 : t172 = t174
  · rw [if_pos c10] at H
    have c10b0 : (t172 == t174) = true := beq_iff_eq.mpr c10
    have c10b1 : (t172 != t174) = false := bne_eq_false_iff_eq.mpr c10
    clear c10
    by_cases c11 : t172 = t170
    · rw [if_pos c11] at H
      have c11b0 : (t172 == t170) = true := beq_iff_eq.mpr c11
      have c11b1 : (t172 != t170) = false := bne_eq_false_iff_eq.mpr c11
      clear c11
      replace H := Option.bind_eq_some_iff.mp H
      obtain ⟨t175, A120, H⟩ := H
      replace H : (if t175 = t169 then ((rampartlaw03_known.f).bind fun t176 => (some t176)) else (some false)) = some true := H
      have A12 := Aside0.mk A120
      clear A120
      by_cases c13 : t175 = t169
      · rw [if_pos c13] at H
        have c13b0 : (t175 == t169) = true := beq_iff_eq.mpr c13
        have c13b1 : (t175 != t169) = false := bne_eq_false_iff_eq.mpr c13
        clear c13
        replace H := Option.bind_eq_some_iff.mp H
        obtain ⟨t176, A140, H⟩ := H
        replace H : (some t176) = some true := H
        have A14 := Aside0.mk A140
        clear A140
        have hrt_ := Option.some.inj H
        go_enter Try.func8, Try.ntmps8
        go_wp2_with (first | ((with_reducible refine gate_callee (f := 26) rfl ?_); refine goesL_ (some 14) rfl rfl Try.func26 (by kernel_rfl) rfl #[.int .u32 a0, .int .i64 (wrap64 (a1))] rfl (by (try simp only [List.map_toArray, List.map_cons, List.map_nil]); first | done | rfl | (simp only [List.length_drop, List.length_take]; rfl)) ?_; (with_reducible refine (seqn_Step.calls a0 (wrap64 (a1)) t169 _ A4.out).mono ?_); rintro e w' ⟨rfl, ⟨nd, rfl⟩⟩; refine ⟨_, rfl, ?_⟩) | ((with_reducible refine gate_callee (f := 26) rfl ?_); refine goesL_ (some 18) rfl rfl Try.func26 (by kernel_rfl) rfl #[.int .u32 t169, .int .i64 (wrap64 (a2))] rfl (by (try simp only [List.map_toArray, List.map_cons, List.map_nil]); first | done | rfl | (simp only [List.length_drop, List.length_take]; rfl)) ?_; (with_reducible refine (seqn_Step.calls t169 (wrap64 (a2)) t170 _ A5.out).mono ?_); rintro e w' ⟨rfl, ⟨nd, rfl⟩⟩; refine ⟨_, rfl, ?_⟩) | ((with_reducible refine gate_callee (f := 20) rfl ?_); refine goesL_ (some 22) rfl rfl Try.func20 (by kernel_rfl) rfl #[.int .u32 t169, .int .u32 t170] rfl (by (try simp only [List.map_toArray, List.map_cons, List.map_nil]); first | done | rfl | (simp only [List.length_drop, List.length_take]; rfl)) ?_; (with_reducible refine (seqn_Later.calls t169 t170 t171 _ A6.out).mono ?_); rintro e w' ⟨rfl, ⟨nd, rfl⟩⟩; refine ⟨_, rfl, ?_⟩) | ((with_reducible refine gate_callee (f := 20) rfl ?_); refine goesL_ (some 23) rfl rfl Try.func20 (by kernel_rfl) rfl #[.int .u32 a0, .int .u32 t171] rfl (by (try simp only [List.map_toArray, List.map_cons, List.map_nil]); first | done | rfl | (simp only [List.length_drop, List.length_take]; rfl)) ?_; (with_reducible refine (seqn_Later.calls a0 t171 t172 _ A7.out).mono ?_); rintro e w' ⟨rfl, ⟨nd, rfl⟩⟩; refine ⟨_, rfl, ?_⟩) | ((with_reducible refine gate_callee (f := 20) rfl ?_); refine goesL_ (some 26) rfl rfl Try.func20 (by kernel_rfl) rfl #[.int .u32 t170, .int .u32 a0] rfl (by (try simp only [List.map_toArray, List.map_cons, List.map_nil]); first | done | rfl | (simp only [List.length_drop, List.length_take]; rfl)) ?_; (with_reducible refine (seqn_Later.calls t170 a0 t173 _ A8.out).mono ?_); rintro e w' ⟨rfl, ⟨nd, rfl⟩⟩; refine ⟨_, rfl, ?_⟩) | ((with_reducible refine gate_callee (f := 20) rfl ?_); refine goesL_ (some 28) rfl rfl Try.func20 (by kernel_rfl) rfl #[.int .u32 t173, .int .u32 t169] rfl (by (try simp only [List.map_toArray, List.map_cons, List.map_nil]); first | done | rfl | (simp only [List.length_drop, List.length_take]; rfl)) ?_; (with_reducible refine (seqn_Later.calls t173 t169 t174 _ A9.out).mono ?_); rintro e w' ⟨rfl, ⟨nd, rfl⟩⟩; refine ⟨_, rfl, ?_⟩) | (go_at_call 20; (with_reducible refine (seqn_Later.calls t169 a0 t175 _ A12.out).mono ?_); rintro e w' ⟨rfl, ⟨nd, rfl⟩⟩) | (go_at_call 28; (with_reducible refine (rampartlaw03_known.calls  t176 _ A14.out).mono ?_); rintro e w' ⟨rfl, ⟨nd, rfl⟩⟩))
        go_ret
        exact ⟨by first | rfl | (simp; done) | (simp [*]; done), by repeat (first | exact Drawn0.refl _ | apply Drawn0.step)⟩
      · rw [if_neg c13] at H
        have c13b0 : (t175 == t169) = false := beq_eq_false_iff_ne.mpr c13
        have c13b1 : (t175 != t169) = true := bne_iff_ne.mpr c13
        exact absurd H (by simp)
    · rw [if_neg c11] at H
      have c11b0 : (t172 == t170) = false := beq_eq_false_iff_ne.mpr c11
      have c11b1 : (t172 != t170) = true := bne_iff_ne.mpr c11
      exact absurd H (by simp)
  · rw [if_neg c10] at H
    have c10b0 : (t172 == t174) = false := beq_eq_false_iff_ne.mpr c10
    have c10b1 : (t172 != t174) = true := bne_iff_ne.mpr c10
    exact absurd H (by simp)

/-- THE ONE PURE STATEMENT of rampartlaw03_SeqnLater: yours. -/
def rampartlaw03_SeqnLater.Pure : Prop := ∀ (a0 : Int) (a1 : Int) (a2 : Int), (Lit.int .u32 a0).wf = true → (Lit.int .u16 a1).wf = true → (Lit.int .u16 a2).wf = true → rampartlaw03_SeqnLater.f a0 a1 a2 = some true
theorem rampartlaw03_SeqnLater.walk (P : rampartlaw03_SeqnLater.Pure) (a0 : Int) (a1 : Int) (a2 : Int) (w : World) (w0 : (Lit.int .u32 a0).wf = true) (w1 : (Lit.int .u16 a1).wf = true) (w2 : (Lit.int .u16 a2).wf = true) :
    Calls Try.prog 8 #[.int .u32 a0, .int .u16 a1, .int .u16 a2] w fun e w' => e = .returned (.bool true) ∧ Below w.heap.size w w' := by
  have h := P a0 a1 a2 w0 w1 w2
  refine (rampartlaw03_SeqnLater.calls a0 a1 a2 w h).mono ?_
  rintro e w' ⟨rfl, hd⟩
  exact ⟨rfl, hd.below⟩

/-! ### rampartlaw16_light: function 29 -/
def rampartlaw16_light.f (a0_0 : Int) (a0_1 : Int) (a0_2 : Int) (a0_3 : Int) (a0_4 : Int) (a0_5 : Int) (a0_6 : Int) (a0_7 : Int) (a0_8 : Int) (a0_9 : Bool) (l0_10 : List (S49)) (a0_11 : Bool) (a0_12 : Int) (a0_13 : Int) (a0_14 : ByteArray) : Option (Bool) := if (a0_14.size : Int) ≤ 5000 then (some (decide ((l0_10.length : Int) ≤ 20))) else (some false)
set_option maxHeartbeats 8000000 in
set_option maxRecDepth 100000 in
theorem rampartlaw16_light.calls (a0_0 : Int) (a0_1 : Int) (a0_2 : Int) (a0_3 : Int) (a0_4 : Int) (a0_5 : Int) (a0_6 : Int) (a0_7 : Int) (a0_8 : Int) (a0_9 : Bool) (A0_10 : Option Addr) (c0_10 : Nat) (l0_10 : List (S49)) (a0_11 : Bool) (a0_12 : Int) (a0_13 : Int) (a0_14 : ByteArray) (r : Bool) (w : World) (hr0_10 : Kd.C k49 w A0_10 l0_10.length l0_10) (hc0_10 : l0_10.length ≤ c0_10) (h : rampartlaw16_light.f a0_0 a0_1 a0_2 a0_3 a0_4 a0_5 a0_6 a0_7 a0_8 a0_9 l0_10 a0_11 a0_12 a0_13 a0_14 = some r) :
    Calls Try.prog 29 #[.agg #[.int .i64 a0_0, .int .i64 a0_1, .int .u32 a0_2, .int .u32 a0_3, .int .i64 a0_4, .int .i64 a0_5, .int .i64 a0_6, .int .i64 a0_7, .int .i64 a0_8, .bool a0_9, .slice A0_10 l0_10.length c0_10, .bool a0_11, .int .u32 a0_12, .int .u32 a0_13, .string a0_14]] w fun e w' => e = .returned (.bool r) ∧ Below w.heap.size w w' := by
  have hu38 := Try.underlying38
  have HR0_10 := Aside0.mk hr0_10
  have HC0_10 := Aside0.mk hc0_10
  clear hr0_10 hc0_10
  have HB := Aside0.mk (Below.refl w.heap.size w)
  have H : (if (a0_14.size : Int) ≤ 5000 then (some (decide ((l0_10.length : Int) ≤ 20))) else (some false)) = some r := h
  clear h
  by_cases c2 : (a0_14.size : Int) ≤ 5000
  · rw [if_pos c2] at H
    have c2b0 : decide ((a0_14.size : Int) ≤ 5000) = true := decide_eq_true c2
    have c2b1 : decide (a0_14.size ≤ 5000) = true := decide_eq_true (by omega)
    clear c2
    obtain rfl := Option.some.inj H
    go_enter Try.func29, Try.ntmps29
    go_wp2_with (first | ((with_reducible refine gate_dst (N := 1) rfl ?_); (try (refine gate_guard (by rfl) ?_; dsimp only)); refine box_event ?hg (N := 1) ?hd (cs := #[.int .i64 a0_0, .int .i64 a0_1, .int .u32 a0_2, .int .u32 a0_3, .int .i64 a0_4, .int .i64 a0_5, .int .i64 a0_6, .int .i64 a0_7, .int .i64 a0_8, .bool a0_9, .slice A0_10 l0_10.length c0_10, .bool a0_11, .int .u32 a0_12, .int .u32 a0_13, .string a0_14]) (t := 38) ?hr ?_; (case hd => rfl); (case hg => rfl); (case hr => first | (go_simp; done) | (go_simp; rfl)); intro gb177 hg w3 hbox hb; have n0_ := Aside0.mk (below_step (by repeat (first | (with_reducible first | exact HB.out | apply below_alloc | apply pw_below_drewN | apply below_drew1) | exact HB.out)) hb); have n1_ := Aside0.mk (hbox); have n2_ := Aside0.mk ((by rw [hg]; exact (below_size (by repeat (first | (with_reducible first | exact HB.out | apply below_alloc | apply pw_below_drewN | apply below_drew1) | exact HB.out))) : w.heap.size ≤ gb177)); have n3_ := Aside0.mk ((by rw [hg]; exact (below_size (by repeat (first | (with_reducible first | exact HB.out | apply below_alloc | apply pw_below_drewN | apply below_drew1) | exact HB.out))) : w.heap.size ≤ gb177)); clear HB; have HB := n0_; have BK177 := n1_; have GW177 := n2_; have GE177 := n3_; clear n0_ n1_ n2_ n3_; clear hb hbox hg; have hcz4_0 : w3.cell? ⟨gb177, 0, none⟩ = some (.int .i64 a0_0) := (blk_cell BK177.out 0).trans rfl; have hcz4_1 : w3.cell? ⟨gb177, 1, none⟩ = some (.int .i64 a0_1) := (blk_cell BK177.out 1).trans rfl; have hcz4_2 : w3.cell? ⟨gb177, 2, none⟩ = some (.int .u32 a0_2) := (blk_cell BK177.out 2).trans rfl; have hcz4_3 : w3.cell? ⟨gb177, 3, none⟩ = some (.int .u32 a0_3) := (blk_cell BK177.out 3).trans rfl; have hcz4_4 : w3.cell? ⟨gb177, 4, none⟩ = some (.int .i64 a0_4) := (blk_cell BK177.out 4).trans rfl; have hcz4_5 : w3.cell? ⟨gb177, 5, none⟩ = some (.int .i64 a0_5) := (blk_cell BK177.out 5).trans rfl; have hcz4_6 : w3.cell? ⟨gb177, 6, none⟩ = some (.int .i64 a0_6) := (blk_cell BK177.out 6).trans rfl; have hcz4_7 : w3.cell? ⟨gb177, 7, none⟩ = some (.int .i64 a0_7) := (blk_cell BK177.out 7).trans rfl; have hcz4_8 : w3.cell? ⟨gb177, 8, none⟩ = some (.int .i64 a0_8) := (blk_cell BK177.out 8).trans rfl; have hcz4_9 : w3.cell? ⟨gb177, 9, none⟩ = some (.bool a0_9) := (blk_cell BK177.out 9).trans rfl; have hcz4_10 : w3.cell? ⟨gb177, 10, none⟩ = some (.slice A0_10 l0_10.length c0_10) := (blk_cell BK177.out 10).trans rfl; have hcz4_11 : w3.cell? ⟨gb177, 11, none⟩ = some (.bool a0_11) := (blk_cell BK177.out 11).trans rfl; have hcz4_12 : w3.cell? ⟨gb177, 12, none⟩ = some (.int .u32 a0_12) := (blk_cell BK177.out 12).trans rfl; have hcz4_13 : w3.cell? ⟨gb177, 13, none⟩ = some (.int .u32 a0_13) := (blk_cell BK177.out 13).trans rfl; have hcz4_14 : w3.cell? ⟨gb177, 14, none⟩ = some (.string a0_14) := (blk_cell BK177.out 14).trans rfl; have hfz4_0 := blk_frozen BK177.out 0; have hfz4_1 := blk_frozen BK177.out 1; have hfz4_2 := blk_frozen BK177.out 2; have hfz4_3 := blk_frozen BK177.out 3; have hfz4_4 := blk_frozen BK177.out 4; have hfz4_5 := blk_frozen BK177.out 5; have hfz4_6 := blk_frozen BK177.out 6; have hfz4_7 := blk_frozen BK177.out 7; have hfz4_8 := blk_frozen BK177.out 8; have hfz4_9 := blk_frozen BK177.out 9; have hfz4_10 := blk_frozen BK177.out 10; have hfz4_11 := blk_frozen BK177.out 11; have hfz4_12 := blk_frozen BK177.out 12; have hfz4_13 := blk_frozen BK177.out 13; have hfz4_14 := blk_frozen BK177.out 14))
    go_ret
    exact ⟨by first | rfl | (simp [errW_none, errW_some] <;> rfl) | (simp [*, errW_none, errW_some] <;> rfl), by repeat (first | (with_reducible first | exact HB.out | apply below_alloc | apply pw_below_drewN | apply below_drew1 | refine below_set ?_ GE177.out) | exact HB.out)⟩
  · rw [if_neg c2] at H
    have c2b0 : decide ((a0_14.size : Int) ≤ 5000) = false := decide_eq_false c2
    have c2b1 : decide (a0_14.size ≤ 5000) = false := decide_eq_false (by omega)
    clear c2
    obtain rfl := Option.some.inj H
    go_enter Try.func29, Try.ntmps29
    go_wp2_with (first | ((with_reducible refine gate_dst (N := 1) rfl ?_); (try (refine gate_guard (by rfl) ?_; dsimp only)); refine box_event ?hg (N := 1) ?hd (cs := #[.int .i64 a0_0, .int .i64 a0_1, .int .u32 a0_2, .int .u32 a0_3, .int .i64 a0_4, .int .i64 a0_5, .int .i64 a0_6, .int .i64 a0_7, .int .i64 a0_8, .bool a0_9, .slice A0_10 l0_10.length c0_10, .bool a0_11, .int .u32 a0_12, .int .u32 a0_13, .string a0_14]) (t := 38) ?hr ?_; (case hd => rfl); (case hg => rfl); (case hr => first | (go_simp; done) | (go_simp; rfl)); intro gb177 hg w5 hbox hb; have n0_ := Aside0.mk (below_step (by repeat (first | (with_reducible first | exact HB.out | apply below_alloc | apply pw_below_drewN | apply below_drew1) | exact HB.out)) hb); have n1_ := Aside0.mk (hbox); have n2_ := Aside0.mk ((by rw [hg]; exact (below_size (by repeat (first | (with_reducible first | exact HB.out | apply below_alloc | apply pw_below_drewN | apply below_drew1) | exact HB.out))) : w.heap.size ≤ gb177)); have n3_ := Aside0.mk ((by rw [hg]; exact (below_size (by repeat (first | (with_reducible first | exact HB.out | apply below_alloc | apply pw_below_drewN | apply below_drew1) | exact HB.out))) : w.heap.size ≤ gb177)); clear HB; have HB := n0_; have BK177 := n1_; have GW177 := n2_; have GE177 := n3_; clear n0_ n1_ n2_ n3_; clear hb hbox hg; have hcz6_0 : w5.cell? ⟨gb177, 0, none⟩ = some (.int .i64 a0_0) := (blk_cell BK177.out 0).trans rfl; have hcz6_1 : w5.cell? ⟨gb177, 1, none⟩ = some (.int .i64 a0_1) := (blk_cell BK177.out 1).trans rfl; have hcz6_2 : w5.cell? ⟨gb177, 2, none⟩ = some (.int .u32 a0_2) := (blk_cell BK177.out 2).trans rfl; have hcz6_3 : w5.cell? ⟨gb177, 3, none⟩ = some (.int .u32 a0_3) := (blk_cell BK177.out 3).trans rfl; have hcz6_4 : w5.cell? ⟨gb177, 4, none⟩ = some (.int .i64 a0_4) := (blk_cell BK177.out 4).trans rfl; have hcz6_5 : w5.cell? ⟨gb177, 5, none⟩ = some (.int .i64 a0_5) := (blk_cell BK177.out 5).trans rfl; have hcz6_6 : w5.cell? ⟨gb177, 6, none⟩ = some (.int .i64 a0_6) := (blk_cell BK177.out 6).trans rfl; have hcz6_7 : w5.cell? ⟨gb177, 7, none⟩ = some (.int .i64 a0_7) := (blk_cell BK177.out 7).trans rfl; have hcz6_8 : w5.cell? ⟨gb177, 8, none⟩ = some (.int .i64 a0_8) := (blk_cell BK177.out 8).trans rfl; have hcz6_9 : w5.cell? ⟨gb177, 9, none⟩ = some (.bool a0_9) := (blk_cell BK177.out 9).trans rfl; have hcz6_10 : w5.cell? ⟨gb177, 10, none⟩ = some (.slice A0_10 l0_10.length c0_10) := (blk_cell BK177.out 10).trans rfl; have hcz6_11 : w5.cell? ⟨gb177, 11, none⟩ = some (.bool a0_11) := (blk_cell BK177.out 11).trans rfl; have hcz6_12 : w5.cell? ⟨gb177, 12, none⟩ = some (.int .u32 a0_12) := (blk_cell BK177.out 12).trans rfl; have hcz6_13 : w5.cell? ⟨gb177, 13, none⟩ = some (.int .u32 a0_13) := (blk_cell BK177.out 13).trans rfl; have hcz6_14 : w5.cell? ⟨gb177, 14, none⟩ = some (.string a0_14) := (blk_cell BK177.out 14).trans rfl; have hfz6_0 := blk_frozen BK177.out 0; have hfz6_1 := blk_frozen BK177.out 1; have hfz6_2 := blk_frozen BK177.out 2; have hfz6_3 := blk_frozen BK177.out 3; have hfz6_4 := blk_frozen BK177.out 4; have hfz6_5 := blk_frozen BK177.out 5; have hfz6_6 := blk_frozen BK177.out 6; have hfz6_7 := blk_frozen BK177.out 7; have hfz6_8 := blk_frozen BK177.out 8; have hfz6_9 := blk_frozen BK177.out 9; have hfz6_10 := blk_frozen BK177.out 10; have hfz6_11 := blk_frozen BK177.out 11; have hfz6_12 := blk_frozen BK177.out 12; have hfz6_13 := blk_frozen BK177.out 13; have hfz6_14 := blk_frozen BK177.out 14))
    go_ret
    exact ⟨by first | rfl | (simp [errW_none, errW_some] <;> rfl) | (simp [*, errW_none, errW_some] <;> rfl), by repeat (first | (with_reducible first | exact HB.out | apply below_alloc | apply pw_below_drewN | apply below_drew1 | refine below_set ?_ GE177.out) | exact HB.out)⟩

end Go.Proofs.Ytbmekfammbfadaa.PAll
