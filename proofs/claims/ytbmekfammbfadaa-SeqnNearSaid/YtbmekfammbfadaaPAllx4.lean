-- Written by a program of this work (wip/mkprint.py, wip/myprint.sh) out of the translation; not trusted: Lean checks it.
import Derived.Test.YtbmekfammbfadaaPAllx0
import Derived.Test.YtbmekfammbfadaaPAllx1
import Derived.Test.YtbmekfammbfadaaPAllx2
namespace Go.Proofs.Ytbmekfammbfadaa.PAll
open Go.RowKit Go.Proofs.YtbmekfammbfadaaW.PrintWords Go.Proofs.YtbmekfammbfadaaW.PrintLast Go.Proofs.YtbmekfammbfadaaW.PrintMore
attribute [local go_sem] max2_int min2_int max_two min_two max_three min_three max_four min_four   -- for this text's walks alone
set_option linter.unusedVariables false
set_option linter.unusedSimpArgs false

/-! ### rampartlaw03_SeqnNear: function 6 -/
def rampartlaw03_SeqnNear.j0 : Nat → Int → Int → Bool → Option (Bool)
  | 0, _, _, _ => none
  | k + 1, x0, x1, x12 => if x12 = true then ((rampartlaw03_known.f).bind fun t143 => (some t143)) else ((seqn_Near.f x0 ((wrap64 (x0 + (wrap64 (x1)))) % 4294967296)).bind fun t144 => (if t144 = (wrap64 (x0 + (wrap64 (x1)))) then ((seqn_Near.f x0 ((x0) % 4294967296)).bind fun t145 => (if t145 = x0 then (if ((t144) % 4294967296) = ((wrap64 (x0 + (wrap64 (x1)))) % 4294967296) then ((rampartlaw03_known.f).bind fun t146 => (some t146)) else (some false)) else (some false))) else (some false)))
def rampartlaw03_SeqnNear.f (k : Nat) (a0 : Int) (a1 : Int) : Option (Bool) := if a0 < 4294967296 then (rampartlaw03_SeqnNear.j0 k a0 a1 true) else (rampartlaw03_SeqnNear.j0 k a0 a1 (decide (a0 > 576460752303423488)))
theorem rampartlaw03_SeqnNear.mono_l : ∀ k, (∀ y0 y1 y2, LeO (rampartlaw03_SeqnNear.j0 k y0 y1 y2) (rampartlaw03_SeqnNear.j0 (k + 1) y0 y1 y2))
  | 0 => fun _ _ _ r h => by simp [rampartlaw03_SeqnNear.j0] at h
  | k + 1 => by
    have ih0 := rampartlaw03_SeqnNear.mono_l k
    · intro y0 y1 y2
      unfold rampartlaw03_SeqnNear.j0
      repeat' first
      | (with_reducible exact ih0 _ _ _)
      | (with_reducible exact LeO.refl _)
      | (with_reducible exact LeO.none _)
      | (with_reducible refine LeO.ite ?_ ?_)
      | (with_reducible refine LeO.bind ?_ (fun _ => ?_))
      | exact ih0 _ _ _
      | exact LeO.none _
      | refine LeO.ite ?_ ?_
      | refine LeO.bind ?_ (fun _ => ?_)
theorem rampartlaw03_SeqnNear.mono : ∀ a0 a1 k, LeO (rampartlaw03_SeqnNear.f k a0 a1) (rampartlaw03_SeqnNear.f (k + 1) a0 a1) := by
  intro a0 a1 k
  have ih0 := rampartlaw03_SeqnNear.mono_l k
  unfold rampartlaw03_SeqnNear.f
  repeat' first
      | (with_reducible exact ih0 _ _ _)
      | (with_reducible exact LeO.refl _)
      | (with_reducible exact LeO.none _)
      | (with_reducible refine LeO.ite ?_ ?_)
      | (with_reducible refine LeO.bind ?_ (fun _ => ?_))
      | exact ih0 _ _ _
      | exact LeO.none _
      | refine LeO.ite ?_ ?_
      | refine LeO.bind ?_ (fun _ => ?_)
set_option maxHeartbeats 8000000 in
set_option maxRecDepth 100000 in
theorem rampartlaw03_SeqnNear.calls (k : Nat) (a0 : Int) (a1 : Int) (r : Bool) (w : World) (h : rampartlaw03_SeqnNear.f k a0 a1 = some r) :
    Calls Try.prog 6 #[.int .i64 a0, .int .i32 a1] w fun e w' => e = .returned (.bool r) ∧ Drawn0 w w' := by
  have H : (if a0 < 4294967296 then (rampartlaw03_SeqnNear.j0 k a0 a1 true) else (rampartlaw03_SeqnNear.j0 k a0 a1 (decide (a0 > 576460752303423488)))) = some r := h
  clear h
  have HC3 := Aside0.mk H
  clear H
  go_enter Try.func6, Try.ntmps6
  go_upto_region 1 with (fail)
  go_cut [12] (fun v12 wc => ∃ (kq : Nat) (x12_2 : Bool), v12 = .bool x12_2 ∧ Aside0 (rampartlaw03_SeqnNear.j0 kq a0 a1 x12_2 = some r) ∧ Aside0 (kq ≤ k) ∧ Drawn0 w wc)
  case first =>
    have H := HC3.out
    clear HC3
    by_cases c4 : a0 < 4294967296
    · rw [if_pos c4] at H
      have c4b0 : decide (a0 < 4294967296) = true := decide_eq_true c4
      clear c4
      (first | rw [c4b0] | (simp only [i64_w, i32_w]; rw [c4b0]) | skip)
      have H' := Aside0.mk H
      clear H
      go_wp2
      go_meet
      case rel => exact ⟨_, (true), (by first | rfl | (simp; done) | (simp [*]; done)), H', ⟨by first | omega | exact Nat.le_refl _⟩, by repeat (first | exact Drawn0.refl _ | apply Drawn0.step)⟩
    · rw [if_neg c4] at H
      have c4b0 : decide (a0 < 4294967296) = false := decide_eq_false c4
      clear c4
      (first | rw [c4b0] | (simp only [i64_w, i32_w]; rw [c4b0]) | skip)
      have H' := Aside0.mk H
      clear H
      go_wp2
      go_meet
      case rel => exact ⟨_, (decide (a0 > 576460752303423488)), (by first | rfl | (simp; done) | (simp [*]; done)), H', ⟨by first | omega | exact Nat.le_refl _⟩, by repeat (first | exact Drawn0.refl _ | apply Drawn0.step)⟩
  case rest =>
    clear HC3
    try clear p2
    try clear c4
    try clear c4b0
    obtain ⟨kq, x12_2, rfl, HA, HJ2, ⟨mc2, rfl⟩⟩ := hcut
    cases kq with
    | zero => exact absurd HA.out (by simp [rampartlaw03_SeqnNear.j0])
    | succ kj2 =>
      have H := HA.out
      clear HA
      simp only [rampartlaw03_SeqnNear.j0] at H
      by_cases c5 : x12_2 = true
      · subst c5
        have H1 : ((rampartlaw03_known.f).bind fun t143 => (some t143)) = some r := by rw [if_pos rfl] at H; exact H
        clear H
        have H := H1
        clear H1
        replace H := Option.bind_eq_some_iff.mp H
        obtain ⟨t143, A60, H⟩ := H
        replace H : (some t143) = some r := H
        have A6 := Aside0.mk A60
        clear A60
        obtain rfl := Option.some.inj H
        go_wp2_with (first | ((with_reducible refine gate_callee (f := 28) rfl ?_); refine goesL_ (some 13) rfl rfl Try.func28 (by kernel_rfl) rfl #[] rfl (by (try simp only [List.map_toArray, List.map_cons, List.map_nil]); first | done | rfl | (simp only [List.length_drop, List.length_take]; rfl)) ?_; (with_reducible refine (rampartlaw03_known.calls  t143 _ A6.out).mono ?_); rintro e w' ⟨rfl, ⟨nd, rfl⟩⟩; refine ⟨_, rfl, ?_⟩))
        go_ret
        exact ⟨by first | rfl | (simp; done) | (simp [*]; done), by repeat (first | exact Drawn0.refl _ | apply Drawn0.step)⟩
      · replace c5 := Bool.eq_false_iff.mpr c5
        subst c5
        have H1 : ((seqn_Near.f a0 ((wrap64 (a0 + (wrap64 (a1)))) % 4294967296)).bind fun t144 => (if t144 = (wrap64 (a0 + (wrap64 (a1)))) then ((seqn_Near.f a0 ((a0) % 4294967296)).bind fun t145 => (if t145 = a0 then (if ((t144) % 4294967296) = ((wrap64 (a0 + (wrap64 (a1)))) % 4294967296) then ((rampartlaw03_known.f).bind fun t146 => (some t146)) else (some false)) else (some false))) else (some false))) = some r := by rw [if_neg (show ¬ (false = true) by decide)] at H; exact H
        clear H
        have H := H1
        clear H1
        replace H := Option.bind_eq_some_iff.mp H
        obtain ⟨t144, A70, H⟩ := H
        replace H : (if t144 = (wrap64 (a0 + (wrap64 (a1)))) then ((seqn_Near.f a0 ((a0) % 4294967296)).bind fun t145 => (if t145 = a0 then (if ((t144) % 4294967296) = ((wrap64 (a0 + (wrap64 (a1)))) % 4294967296) then ((rampartlaw03_known.f).bind fun t146 => (some t146)) else (some false)) else (some false))) else (some false)) = some r := H
        have A7 := Aside0.mk A70
        clear A70
        by_cases c8 : t144 = (wrap64 (a0 + (wrap64 (a1))))
        · rw [if_pos c8] at H
          have c8b0 : (t144 == (wrap64 (a0 + (wrap64 (a1))))) = true := beq_iff_eq.mpr c8
          have c8b1 : (t144 != (wrap64 (a0 + (wrap64 (a1))))) = false := bne_eq_false_iff_eq.mpr c8
          clear c8
          replace H := Option.bind_eq_some_iff.mp H
          obtain ⟨t145, A90, H⟩ := H
          replace H : (if t145 = a0 then (if ((t144) % 4294967296) = ((wrap64 (a0 + (wrap64 (a1)))) % 4294967296) then ((rampartlaw03_known.f).bind fun t146 => (some t146)) else (some false)) else (some false)) = some r := H
          have A9 := Aside0.mk A90
          clear A90
          by_cases c10 : t145 = a0
          · rw [if_pos c10] at H
            have c10b0 : (t145 == a0) = true := beq_iff_eq.mpr c10
            have c10b1 : (t145 != a0) = false := bne_eq_false_iff_eq.mpr c10
            clear c10
            by_cases c11 : ((t144) % 4294967296) = ((wrap64 (a0 + (wrap64 (a1)))) % 4294967296)
            · rw [if_pos c11] at H
              have c11b0 : (((t144) % 4294967296) == ((wrap64 (a0 + (wrap64 (a1)))) % 4294967296)) = true := beq_iff_eq.mpr c11
              have c11b1 : (((t144) % 4294967296) != ((wrap64 (a0 + (wrap64 (a1)))) % 4294967296)) = false := bne_eq_false_iff_eq.mpr c11
              clear c11
              replace H := Option.bind_eq_some_iff.mp H
              obtain ⟨t146, A120, H⟩ := H
              replace H : (some t146) = some r := H
              have A12 := Aside0.mk A120
              clear A120
              obtain rfl := Option.some.inj H
              go_wp2_with (first | ((with_reducible refine gate_callee (f := 24) rfl ?_); refine goesL_ (some 21) rfl rfl Try.func24 (by kernel_rfl) rfl #[.int .i64 a0, .int .u32 ((wrap64 (a0 + (wrap64 (a1)))) % 4294967296)] rfl (by (try simp only [List.map_toArray, List.map_cons, List.map_nil]); first | done | rfl | (simp only [List.length_drop, List.length_take]; rfl)) ?_; (with_reducible refine (seqn_Near.calls a0 ((wrap64 (a0 + (wrap64 (a1)))) % 4294967296) t144 _ A7.out).mono ?_); rintro e w' ⟨rfl, ⟨nd, rfl⟩⟩; refine ⟨_, rfl, ?_⟩) | (go_at_call 24; (with_reducible refine (seqn_Near.calls a0 ((a0) % 4294967296) t145 _ A9.out).mono ?_); rintro e w' ⟨rfl, ⟨nd, rfl⟩⟩) | (go_at_call 28; (with_reducible refine (rampartlaw03_known.calls  t146 _ A12.out).mono ?_); rintro e w' ⟨rfl, ⟨nd, rfl⟩⟩))
              go_ret
              exact ⟨by first | rfl | (simp; done) | (simp [*]; done), by repeat (first | exact Drawn0.refl _ | apply Drawn0.step)⟩
            · rw [if_neg c11] at H
              have c11b0 : (((t144) % 4294967296) == ((wrap64 (a0 + (wrap64 (a1)))) % 4294967296)) = false := beq_eq_false_iff_ne.mpr c11
              have c11b1 : (((t144) % 4294967296) != ((wrap64 (a0 + (wrap64 (a1)))) % 4294967296)) = true := bne_iff_ne.mpr c11
              obtain rfl := Option.some.inj H
              go_wp2_with (first | ((with_reducible refine gate_callee (f := 24) rfl ?_); refine goesL_ (some 21) rfl rfl Try.func24 (by kernel_rfl) rfl #[.int .i64 a0, .int .u32 ((wrap64 (a0 + (wrap64 (a1)))) % 4294967296)] rfl (by (try simp only [List.map_toArray, List.map_cons, List.map_nil]); first | done | rfl | (simp only [List.length_drop, List.length_take]; rfl)) ?_; (with_reducible refine (seqn_Near.calls a0 ((wrap64 (a0 + (wrap64 (a1)))) % 4294967296) t144 _ A7.out).mono ?_); rintro e w' ⟨rfl, ⟨nd, rfl⟩⟩; refine ⟨_, rfl, ?_⟩) | (go_at_call 24; (with_reducible refine (seqn_Near.calls a0 ((a0) % 4294967296) t145 _ A9.out).mono ?_); rintro e w' ⟨rfl, ⟨nd, rfl⟩⟩))
              go_ret
              exact ⟨by first | rfl | (simp; done) | (simp [*]; done), by repeat (first | exact Drawn0.refl _ | apply Drawn0.step)⟩
          · rw [if_neg c10] at H
            have c10b0 : (t145 == a0) = false := beq_eq_false_iff_ne.mpr c10
            have c10b1 : (t145 != a0) = true := bne_iff_ne.mpr c10
            obtain rfl := Option.some.inj H
            go_wp2_with (first | ((with_reducible refine gate_callee (f := 24) rfl ?_); refine goesL_ (some 21) rfl rfl Try.func24 (by kernel_rfl) rfl #[.int .i64 a0, .int .u32 ((wrap64 (a0 + (wrap64 (a1)))) % 4294967296)] rfl (by (try simp only [List.map_toArray, List.map_cons, List.map_nil]); first | done | rfl | (simp only [List.length_drop, List.length_take]; rfl)) ?_; (with_reducible refine (seqn_Near.calls a0 ((wrap64 (a0 + (wrap64 (a1)))) % 4294967296) t144 _ A7.out).mono ?_); rintro e w' ⟨rfl, ⟨nd, rfl⟩⟩; refine ⟨_, rfl, ?_⟩) | (go_at_call 24; (with_reducible refine (seqn_Near.calls a0 ((a0) % 4294967296) t145 _ A9.out).mono ?_); rintro e w' ⟨rfl, ⟨nd, rfl⟩⟩))
            go_ret
            exact ⟨by first | rfl | (simp; done) | (simp [*]; done), by repeat (first | exact Drawn0.refl _ | apply Drawn0.step)⟩
        · rw [if_neg c8] at H
          have c8b0 : (t144 == (wrap64 (a0 + (wrap64 (a1))))) = false := beq_eq_false_iff_ne.mpr c8
          have c8b1 : (t144 != (wrap64 (a0 + (wrap64 (a1))))) = true := bne_iff_ne.mpr c8
          obtain rfl := Option.some.inj H
          go_wp2_with (first | ((with_reducible refine gate_callee (f := 24) rfl ?_); refine goesL_ (some 21) rfl rfl Try.func24 (by kernel_rfl) rfl #[.int .i64 a0, .int .u32 ((wrap64 (a0 + (wrap64 (a1)))) % 4294967296)] rfl (by (try simp only [List.map_toArray, List.map_cons, List.map_nil]); first | done | rfl | (simp only [List.length_drop, List.length_take]; rfl)) ?_; (with_reducible refine (seqn_Near.calls a0 ((wrap64 (a0 + (wrap64 (a1)))) % 4294967296) t144 _ A7.out).mono ?_); rintro e w' ⟨rfl, ⟨nd, rfl⟩⟩; refine ⟨_, rfl, ?_⟩))
          go_ret
          exact ⟨by first | rfl | (simp; done) | (simp [*]; done), by repeat (first | exact Drawn0.refl _ | apply Drawn0.step)⟩

/-- THE ONE PURE STATEMENT of rampartlaw03_SeqnNear: yours. -/
def rampartlaw03_SeqnNear.Pure : Prop := ∀ (a0 : Int) (a1 : Int), (Lit.int .i64 a0).wf = true → (Lit.int .i32 a1).wf = true → ∃ k, rampartlaw03_SeqnNear.f k a0 a1 = some true
theorem rampartlaw03_SeqnNear.walk (P : rampartlaw03_SeqnNear.Pure) (a0 : Int) (a1 : Int) (w : World) (w0 : (Lit.int .i64 a0).wf = true) (w1 : (Lit.int .i32 a1).wf = true) :
    Calls Try.prog 6 #[.int .i64 a0, .int .i32 a1] w fun e w' => e = .returned (.bool true) ∧ Below w.heap.size w w' := by
  obtain ⟨k, h⟩ := P a0 a1 w0 w1
  refine (rampartlaw03_SeqnNear.calls k a0 a1 true w h).mono ?_
  rintro e w' ⟨rfl, hd⟩
  exact ⟨rfl, hd.below⟩

/-! ### rampartlaw03_SeqnWithin: function 7 -/
def rampartlaw03_SeqnWithin.f (a0 : Int) (a1 : Int) (a2 : Int) : Option (Bool) := (seqn_Step.f a0 (wrap64 (a2))).bind fun t147 => ((seqn_Step.f a0 (wrap64 ((-1) - (wrap64 (a2))))).bind fun t148 => ((seqn_Within.f t147 a0 (wrap64 (a1))).bind fun t149 => (if (t149 == (decide (a2 < a1))) = true then ((seqn_Within.f t148 a0 (wrap64 (a1))).bind fun t150 => (if t150 = true then (some false) else ((seqn_Within.f t148 a0 4294967296).bind fun t151 => (if t151 = true then ((seqn_Within.f t147 a0 0).bind fun t152 => (if t152 = true then (some false) else ((rampartlaw03_known.f).bind fun t153 => (some t153)))) else (some false))))) else (some false))))
set_option maxHeartbeats 8000000 in
set_option maxRecDepth 100000 in
theorem rampartlaw03_SeqnWithin.calls (a0 : Int) (a1 : Int) (a2 : Int) (r : Bool) (w : World) (h : rampartlaw03_SeqnWithin.f a0 a1 a2 = some r) :
    Calls Try.prog 7 #[.int .u32 a0, .int .u16 a1, .int .u16 a2] w fun e w' => e = .returned (.bool r) ∧ Drawn0 w w' := by
  have H : ((seqn_Step.f a0 (wrap64 (a2))).bind fun t147 => ((seqn_Step.f a0 (wrap64 ((-1) - (wrap64 (a2))))).bind fun t148 => ((seqn_Within.f t147 a0 (wrap64 (a1))).bind fun t149 => (if (t149 == (decide (a2 < a1))) = true then ((seqn_Within.f t148 a0 (wrap64 (a1))).bind fun t150 => (if t150 = true then (some false) else ((seqn_Within.f t148 a0 4294967296).bind fun t151 => (if t151 = true then ((seqn_Within.f t147 a0 0).bind fun t152 => (if t152 = true then (some false) else ((rampartlaw03_known.f).bind fun t153 => (some t153)))) else (some false))))) else (some false))))) = some r := h
  clear h
  replace H := Option.bind_eq_some_iff.mp H
  obtain ⟨t147, A40, H⟩ := H
  replace H : ((seqn_Step.f a0 (wrap64 ((-1) - (wrap64 (a2))))).bind fun t148 => ((seqn_Within.f t147 a0 (wrap64 (a1))).bind fun t149 => (if (t149 == (decide (a2 < a1))) = true then ((seqn_Within.f t148 a0 (wrap64 (a1))).bind fun t150 => (if t150 = true then (some false) else ((seqn_Within.f t148 a0 4294967296).bind fun t151 => (if t151 = true then ((seqn_Within.f t147 a0 0).bind fun t152 => (if t152 = true then (some false) else ((rampartlaw03_known.f).bind fun t153 => (some t153)))) else (some false))))) else (some false)))) = some r := H
  have A4 := Aside0.mk A40
  clear A40
  replace H := Option.bind_eq_some_iff.mp H
  obtain ⟨t148, A50, H⟩ := H
  replace H : ((seqn_Within.f t147 a0 (wrap64 (a1))).bind fun t149 => (if (t149 == (decide (a2 < a1))) = true then ((seqn_Within.f t148 a0 (wrap64 (a1))).bind fun t150 => (if t150 = true then (some false) else ((seqn_Within.f t148 a0 4294967296).bind fun t151 => (if t151 = true then ((seqn_Within.f t147 a0 0).bind fun t152 => (if t152 = true then (some false) else ((rampartlaw03_known.f).bind fun t153 => (some t153)))) else (some false))))) else (some false))) = some r := H
  have A5 := Aside0.mk A50
  clear A50
  replace H := Option.bind_eq_some_iff.mp H
  obtain ⟨t149, A60, H⟩ := H
  replace H : (if (t149 == (decide (a2 < a1))) = true then ((seqn_Within.f t148 a0 (wrap64 (a1))).bind fun t150 => (if t150 = true then (some false) else ((seqn_Within.f t148 a0 4294967296).bind fun t151 => (if t151 = true then ((seqn_Within.f t147 a0 0).bind fun t152 => (if t152 = true then (some false) else ((rampartlaw03_known.f).bind fun t153 => (some t153)))) else (some false))))) else (some false)) = some r := H
  have A6 := Aside0.mk A60
  clear A60
  by_cases c7 : (t149 == (decide (a2 < a1))) = true
  · rw [if_pos c7] at H
    have c7b0 : (t149 == (decide (a2 < a1))) = true := c7
    (try (have c7b1 : decide (t149 = (decide (a2 < a1))) = true := by simpa using c7))
    (try (have c7b2 : (t149 == (decide (a2 < a1))) = true := by simpa using c7))
    clear c7
    replace H := Option.bind_eq_some_iff.mp H
    obtain ⟨t150, A80, H⟩ := H
    replace H : (if t150 = true then (some false) else ((seqn_Within.f t148 a0 4294967296).bind fun t151 => (if t151 = true then ((seqn_Within.f t147 a0 0).bind fun t152 => (if t152 = true then (some false) else ((rampartlaw03_known.f).bind fun t153 => (some t153)))) else (some false)))) = some r := H
    have A8 := Aside0.mk A80
    clear A80
    by_cases c9 : t150 = true
    · subst c9
      have H1 : (some false) = some r := by rw [if_pos rfl] at H; exact H
      clear H
      have H := H1
      clear H1
      obtain rfl := Option.some.inj H
      go_enter Try.func7, Try.ntmps7
      go_wp2_with (first | ((with_reducible refine gate_callee (f := 26) rfl ?_); refine goesL_ (some 12) rfl rfl Try.func26 (by kernel_rfl) rfl #[.int .u32 a0, .int .i64 (wrap64 (a2))] rfl (by (try simp only [List.map_toArray, List.map_cons, List.map_nil]); first | done | rfl | (simp only [List.length_drop, List.length_take]; rfl)) ?_; (with_reducible refine (seqn_Step.calls a0 (wrap64 (a2)) t147 _ A4.out).mono ?_); rintro e w' ⟨rfl, ⟨nd, rfl⟩⟩; refine ⟨_, rfl, ?_⟩) | ((with_reducible refine gate_callee (f := 26) rfl ?_); refine goesL_ (some 17) rfl rfl Try.func26 (by kernel_rfl) rfl #[.int .u32 a0, .int .i64 (wrap64 ((-1) - (wrap64 (a2))))] rfl (by (try simp only [List.map_toArray, List.map_cons, List.map_nil]); first | done | rfl | (simp only [List.length_drop, List.length_take]; rfl)) ?_; (with_reducible refine (seqn_Step.calls a0 (wrap64 ((-1) - (wrap64 (a2)))) t148 _ A5.out).mono ?_); rintro e w' ⟨rfl, ⟨nd, rfl⟩⟩; refine ⟨_, rfl, ?_⟩) | ((with_reducible refine gate_callee (f := 22) rfl ?_); refine goesL_ (some 22) rfl rfl Try.func22 (by kernel_rfl) rfl #[.int .u32 t147, .int .u32 a0, .int .i64 (wrap64 (a1))] rfl (by (try simp only [List.map_toArray, List.map_cons, List.map_nil]); first | done | rfl | (simp only [List.length_drop, List.length_take]; rfl)) ?_; (with_reducible refine (seqn_Within.calls t147 a0 (wrap64 (a1)) t149 _ A6.out).mono ?_); rintro e w' ⟨rfl, ⟨nd, rfl⟩⟩; refine ⟨_, rfl, ?_⟩) | (go_at_call 22; (with_reducible refine (seqn_Within.calls t148 a0 (wrap64 (a1)) true _ A8.out).mono ?_); rintro e w' ⟨rfl, ⟨nd, rfl⟩⟩))
      go_ret
      exact ⟨by first | rfl | (simp; done) | (simp [*]; done), by repeat (first | exact Drawn0.refl _ | apply Drawn0.step)⟩
    · replace c9 := Bool.eq_false_iff.mpr c9
      subst c9
      have H1 : ((seqn_Within.f t148 a0 4294967296).bind fun t151 => (if t151 = true then ((seqn_Within.f t147 a0 0).bind fun t152 => (if t152 = true then (some false) else ((rampartlaw03_known.f).bind fun t153 => (some t153)))) else (some false))) = some r := by rw [if_neg (show ¬ (false = true) by decide)] at H; exact H
      clear H
      have H := H1
      clear H1
      replace H := Option.bind_eq_some_iff.mp H
      obtain ⟨t151, A100, H⟩ := H
      replace H : (if t151 = true then ((seqn_Within.f t147 a0 0).bind fun t152 => (if t152 = true then (some false) else ((rampartlaw03_known.f).bind fun t153 => (some t153)))) else (some false)) = some r := H
      have A10 := Aside0.mk A100
      clear A100
      by_cases c11 : t151 = true
      · subst c11
        have H1 : ((seqn_Within.f t147 a0 0).bind fun t152 => (if t152 = true then (some false) else ((rampartlaw03_known.f).bind fun t153 => (some t153)))) = some r := by rw [if_pos rfl] at H; exact H
        clear H
        have H := H1
        clear H1
        replace H := Option.bind_eq_some_iff.mp H
        obtain ⟨t152, A120, H⟩ := H
        replace H : (if t152 = true then (some false) else ((rampartlaw03_known.f).bind fun t153 => (some t153))) = some r := H
        have A12 := Aside0.mk A120
        clear A120
        by_cases c13 : t152 = true
        · subst c13
          have H1 : (some false) = some r := by rw [if_pos rfl] at H; exact H
          clear H
          have H := H1
          clear H1
          obtain rfl := Option.some.inj H
          go_enter Try.func7, Try.ntmps7
          go_wp2_with (first | ((with_reducible refine gate_callee (f := 26) rfl ?_); refine goesL_ (some 12) rfl rfl Try.func26 (by kernel_rfl) rfl #[.int .u32 a0, .int .i64 (wrap64 (a2))] rfl (by (try simp only [List.map_toArray, List.map_cons, List.map_nil]); first | done | rfl | (simp only [List.length_drop, List.length_take]; rfl)) ?_; (with_reducible refine (seqn_Step.calls a0 (wrap64 (a2)) t147 _ A4.out).mono ?_); rintro e w' ⟨rfl, ⟨nd, rfl⟩⟩; refine ⟨_, rfl, ?_⟩) | ((with_reducible refine gate_callee (f := 26) rfl ?_); refine goesL_ (some 17) rfl rfl Try.func26 (by kernel_rfl) rfl #[.int .u32 a0, .int .i64 (wrap64 ((-1) - (wrap64 (a2))))] rfl (by (try simp only [List.map_toArray, List.map_cons, List.map_nil]); first | done | rfl | (simp only [List.length_drop, List.length_take]; rfl)) ?_; (with_reducible refine (seqn_Step.calls a0 (wrap64 ((-1) - (wrap64 (a2)))) t148 _ A5.out).mono ?_); rintro e w' ⟨rfl, ⟨nd, rfl⟩⟩; refine ⟨_, rfl, ?_⟩) | ((with_reducible refine gate_callee (f := 22) rfl ?_); refine goesL_ (some 22) rfl rfl Try.func22 (by kernel_rfl) rfl #[.int .u32 t147, .int .u32 a0, .int .i64 (wrap64 (a1))] rfl (by (try simp only [List.map_toArray, List.map_cons, List.map_nil]); first | done | rfl | (simp only [List.length_drop, List.length_take]; rfl)) ?_; (with_reducible refine (seqn_Within.calls t147 a0 (wrap64 (a1)) t149 _ A6.out).mono ?_); rintro e w' ⟨rfl, ⟨nd, rfl⟩⟩; refine ⟨_, rfl, ?_⟩) | (go_at_call 22; (with_reducible refine (seqn_Within.calls t148 a0 (wrap64 (a1)) false _ A8.out).mono ?_); rintro e w' ⟨rfl, ⟨nd, rfl⟩⟩) | (go_at_call 22; (with_reducible refine (seqn_Within.calls t148 a0 4294967296 true _ A10.out).mono ?_); rintro e w' ⟨rfl, ⟨nd, rfl⟩⟩) | (go_at_call 22; (with_reducible refine (seqn_Within.calls t147 a0 0 true _ A12.out).mono ?_); rintro e w' ⟨rfl, ⟨nd, rfl⟩⟩))
          go_ret
          exact ⟨by first | rfl | (simp; done) | (simp [*]; done), by repeat (first | exact Drawn0.refl _ | apply Drawn0.step)⟩
        · replace c13 := Bool.eq_false_iff.mpr c13
          subst c13
          have H1 : ((rampartlaw03_known.f).bind fun t153 => (some t153)) = some r := by rw [if_neg (show ¬ (false = true) by decide)] at H; exact H
          clear H
          have H := H1
          clear H1
          replace H := Option.bind_eq_some_iff.mp H
          obtain ⟨t153, A140, H⟩ := H
          replace H : (some t153) = some r := H
          have A14 := Aside0.mk A140
          clear A140
          obtain rfl := Option.some.inj H
          go_enter Try.func7, Try.ntmps7
          go_wp2_with (first | ((with_reducible refine gate_callee (f := 26) rfl ?_); refine goesL_ (some 12) rfl rfl Try.func26 (by kernel_rfl) rfl #[.int .u32 a0, .int .i64 (wrap64 (a2))] rfl (by (try simp only [List.map_toArray, List.map_cons, List.map_nil]); first | done | rfl | (simp only [List.length_drop, List.length_take]; rfl)) ?_; (with_reducible refine (seqn_Step.calls a0 (wrap64 (a2)) t147 _ A4.out).mono ?_); rintro e w' ⟨rfl, ⟨nd, rfl⟩⟩; refine ⟨_, rfl, ?_⟩) | ((with_reducible refine gate_callee (f := 26) rfl ?_); refine goesL_ (some 17) rfl rfl Try.func26 (by kernel_rfl) rfl #[.int .u32 a0, .int .i64 (wrap64 ((-1) - (wrap64 (a2))))] rfl (by (try simp only [List.map_toArray, List.map_cons, List.map_nil]); first | done | rfl | (simp only [List.length_drop, List.length_take]; rfl)) ?_; (with_reducible refine (seqn_Step.calls a0 (wrap64 ((-1) - (wrap64 (a2)))) t148 _ A5.out).mono ?_); rintro e w' ⟨rfl, ⟨nd, rfl⟩⟩; refine ⟨_, rfl, ?_⟩) | ((with_reducible refine gate_callee (f := 22) rfl ?_); refine goesL_ (some 22) rfl rfl Try.func22 (by kernel_rfl) rfl #[.int .u32 t147, .int .u32 a0, .int .i64 (wrap64 (a1))] rfl (by (try simp only [List.map_toArray, List.map_cons, List.map_nil]); first | done | rfl | (simp only [List.length_drop, List.length_take]; rfl)) ?_; (with_reducible refine (seqn_Within.calls t147 a0 (wrap64 (a1)) t149 _ A6.out).mono ?_); rintro e w' ⟨rfl, ⟨nd, rfl⟩⟩; refine ⟨_, rfl, ?_⟩) | (go_at_call 22; (with_reducible refine (seqn_Within.calls t148 a0 (wrap64 (a1)) false _ A8.out).mono ?_); rintro e w' ⟨rfl, ⟨nd, rfl⟩⟩) | (go_at_call 22; (with_reducible refine (seqn_Within.calls t148 a0 4294967296 true _ A10.out).mono ?_); rintro e w' ⟨rfl, ⟨nd, rfl⟩⟩) | (go_at_call 22; (with_reducible refine (seqn_Within.calls t147 a0 0 false _ A12.out).mono ?_); rintro e w' ⟨rfl, ⟨nd, rfl⟩⟩) | (go_at_call 28; (with_reducible refine (rampartlaw03_known.calls  t153 _ A14.out).mono ?_); rintro e w' ⟨rfl, ⟨nd, rfl⟩⟩))
          go_ret
          exact ⟨by first | rfl | (simp; done) | (simp [*]; done), by repeat (first | exact Drawn0.refl _ | apply Drawn0.step)⟩
      · replace c11 := Bool.eq_false_iff.mpr c11
        subst c11
        have H1 : (some false) = some r := by rw [if_neg (show ¬ (false = true) by decide)] at H; exact H
        clear H
        have H := H1
        clear H1
        obtain rfl := Option.some.inj H
        go_enter Try.func7, Try.ntmps7
        go_wp2_with (first | ((with_reducible refine gate_callee (f := 26) rfl ?_); refine goesL_ (some 12) rfl rfl Try.func26 (by kernel_rfl) rfl #[.int .u32 a0, .int .i64 (wrap64 (a2))] rfl (by (try simp only [List.map_toArray, List.map_cons, List.map_nil]); first | done | rfl | (simp only [List.length_drop, List.length_take]; rfl)) ?_; (with_reducible refine (seqn_Step.calls a0 (wrap64 (a2)) t147 _ A4.out).mono ?_); rintro e w' ⟨rfl, ⟨nd, rfl⟩⟩; refine ⟨_, rfl, ?_⟩) | ((with_reducible refine gate_callee (f := 26) rfl ?_); refine goesL_ (some 17) rfl rfl Try.func26 (by kernel_rfl) rfl #[.int .u32 a0, .int .i64 (wrap64 ((-1) - (wrap64 (a2))))] rfl (by (try simp only [List.map_toArray, List.map_cons, List.map_nil]); first | done | rfl | (simp only [List.length_drop, List.length_take]; rfl)) ?_; (with_reducible refine (seqn_Step.calls a0 (wrap64 ((-1) - (wrap64 (a2)))) t148 _ A5.out).mono ?_); rintro e w' ⟨rfl, ⟨nd, rfl⟩⟩; refine ⟨_, rfl, ?_⟩) | ((with_reducible refine gate_callee (f := 22) rfl ?_); refine goesL_ (some 22) rfl rfl Try.func22 (by kernel_rfl) rfl #[.int .u32 t147, .int .u32 a0, .int .i64 (wrap64 (a1))] rfl (by (try simp only [List.map_toArray, List.map_cons, List.map_nil]); first | done | rfl | (simp only [List.length_drop, List.length_take]; rfl)) ?_; (with_reducible refine (seqn_Within.calls t147 a0 (wrap64 (a1)) t149 _ A6.out).mono ?_); rintro e w' ⟨rfl, ⟨nd, rfl⟩⟩; refine ⟨_, rfl, ?_⟩) | (go_at_call 22; (with_reducible refine (seqn_Within.calls t148 a0 (wrap64 (a1)) false _ A8.out).mono ?_); rintro e w' ⟨rfl, ⟨nd, rfl⟩⟩) | (go_at_call 22; (with_reducible refine (seqn_Within.calls t148 a0 4294967296 false _ A10.out).mono ?_); rintro e w' ⟨rfl, ⟨nd, rfl⟩⟩))
        go_ret
        exact ⟨by first | rfl | (simp; done) | (simp [*]; done), by repeat (first | exact Drawn0.refl _ | apply Drawn0.step)⟩
  · rw [if_neg c7] at H
    have c7b0 : (t149 == (decide (a2 < a1))) = false := by simpa using c7
    (try (have c7b1 : decide (t149 = (decide (a2 < a1))) = false := by simpa using c7))
    (try (have c7b2 : (t149 == (decide (a2 < a1))) = false := by simpa using c7))
    (try (have c7b3 : ¬ (t149 = (decide (a2 < a1))) := by simpa using c7))
    clear c7
    obtain rfl := Option.some.inj H
    go_enter Try.func7, Try.ntmps7
    go_wp2_with (first | ((with_reducible refine gate_callee (f := 26) rfl ?_); refine goesL_ (some 12) rfl rfl Try.func26 (by kernel_rfl) rfl #[.int .u32 a0, .int .i64 (wrap64 (a2))] rfl (by (try simp only [List.map_toArray, List.map_cons, List.map_nil]); first | done | rfl | (simp only [List.length_drop, List.length_take]; rfl)) ?_; (with_reducible refine (seqn_Step.calls a0 (wrap64 (a2)) t147 _ A4.out).mono ?_); rintro e w' ⟨rfl, ⟨nd, rfl⟩⟩; refine ⟨_, rfl, ?_⟩) | ((with_reducible refine gate_callee (f := 26) rfl ?_); refine goesL_ (some 17) rfl rfl Try.func26 (by kernel_rfl) rfl #[.int .u32 a0, .int .i64 (wrap64 ((-1) - (wrap64 (a2))))] rfl (by (try simp only [List.map_toArray, List.map_cons, List.map_nil]); first | done | rfl | (simp only [List.length_drop, List.length_take]; rfl)) ?_; (with_reducible refine (seqn_Step.calls a0 (wrap64 ((-1) - (wrap64 (a2)))) t148 _ A5.out).mono ?_); rintro e w' ⟨rfl, ⟨nd, rfl⟩⟩; refine ⟨_, rfl, ?_⟩) | ((with_reducible refine gate_callee (f := 22) rfl ?_); refine goesL_ (some 22) rfl rfl Try.func22 (by kernel_rfl) rfl #[.int .u32 t147, .int .u32 a0, .int .i64 (wrap64 (a1))] rfl (by (try simp only [List.map_toArray, List.map_cons, List.map_nil]); first | done | rfl | (simp only [List.length_drop, List.length_take]; rfl)) ?_; (with_reducible refine (seqn_Within.calls t147 a0 (wrap64 (a1)) t149 _ A6.out).mono ?_); rintro e w' ⟨rfl, ⟨nd, rfl⟩⟩; refine ⟨_, rfl, ?_⟩))
    go_ret
    exact ⟨by first | rfl | (simp; done) | (simp [*]; done), by repeat (first | exact Drawn0.refl _ | apply Drawn0.step)⟩

/-- THE ONE PURE STATEMENT of rampartlaw03_SeqnWithin: yours. -/
def rampartlaw03_SeqnWithin.Pure : Prop := ∀ (a0 : Int) (a1 : Int) (a2 : Int), (Lit.int .u32 a0).wf = true → (Lit.int .u16 a1).wf = true → (Lit.int .u16 a2).wf = true → rampartlaw03_SeqnWithin.f a0 a1 a2 = some true
theorem rampartlaw03_SeqnWithin.walk (P : rampartlaw03_SeqnWithin.Pure) (a0 : Int) (a1 : Int) (a2 : Int) (w : World) (w0 : (Lit.int .u32 a0).wf = true) (w1 : (Lit.int .u16 a1).wf = true) (w2 : (Lit.int .u16 a2).wf = true) :
    Calls Try.prog 7 #[.int .u32 a0, .int .u16 a1, .int .u16 a2] w fun e w' => e = .returned (.bool true) ∧ Below w.heap.size w w' := by
  have h := P a0 a1 a2 w0 w1 w2
  refine (rampartlaw03_SeqnWithin.calls a0 a1 a2 true w h).mono ?_
  rintro e w' ⟨rfl, hd⟩
  exact ⟨rfl, hd.below⟩

/-! ### rampartlaw03_SeqnLater: function 8 -/
def rampartlaw03_SeqnLater.f (a0 : Int) (a1 : Int) (a2 : Int) : Option (Bool) := (seqn_Step.f a0 (wrap64 (a1))).bind fun t154 => ((seqn_Step.f t154 (wrap64 (a2))).bind fun t155 => ((seqn_Later.f t154 t155).bind fun t156 => ((seqn_Later.f a0 t156).bind fun t157 => ((seqn_Later.f t155 a0).bind fun t158 => ((seqn_Later.f t158 t154).bind fun t159 => (if t157 = t159 then (if t157 = t155 then ((seqn_Later.f t154 a0).bind fun t160 => (if t160 = t154 then ((rampartlaw03_known.f).bind fun t161 => (some t161)) else (some false))) else (some false)) else (some false)))))))
set_option maxHeartbeats 8000000 in
set_option maxRecDepth 100000 in
theorem rampartlaw03_SeqnLater.calls (a0 : Int) (a1 : Int) (a2 : Int) (r : Bool) (w : World) (h : rampartlaw03_SeqnLater.f a0 a1 a2 = some r) :
    Calls Try.prog 8 #[.int .u32 a0, .int .u16 a1, .int .u16 a2] w fun e w' => e = .returned (.bool r) ∧ Drawn0 w w' := by
  have H : ((seqn_Step.f a0 (wrap64 (a1))).bind fun t154 => ((seqn_Step.f t154 (wrap64 (a2))).bind fun t155 => ((seqn_Later.f t154 t155).bind fun t156 => ((seqn_Later.f a0 t156).bind fun t157 => ((seqn_Later.f t155 a0).bind fun t158 => ((seqn_Later.f t158 t154).bind fun t159 => (if t157 = t159 then (if t157 = t155 then ((seqn_Later.f t154 a0).bind fun t160 => (if t160 = t154 then ((rampartlaw03_known.f).bind fun t161 => (some t161)) else (some false))) else (some false)) else (some false)))))))) = some r := h
  clear h
  replace H := Option.bind_eq_some_iff.mp H
  obtain ⟨t154, A40, H⟩ := H
  replace H : ((seqn_Step.f t154 (wrap64 (a2))).bind fun t155 => ((seqn_Later.f t154 t155).bind fun t156 => ((seqn_Later.f a0 t156).bind fun t157 => ((seqn_Later.f t155 a0).bind fun t158 => ((seqn_Later.f t158 t154).bind fun t159 => (if t157 = t159 then (if t157 = t155 then ((seqn_Later.f t154 a0).bind fun t160 => (if t160 = t154 then ((rampartlaw03_known.f).bind fun t161 => (some t161)) else (some false))) else (some false)) else (some false))))))) = some r := H
  have A4 := Aside0.mk A40
  clear A40
  replace H := Option.bind_eq_some_iff.mp H
  obtain ⟨t155, A50, H⟩ := H
  replace H : ((seqn_Later.f t154 t155).bind fun t156 => ((seqn_Later.f a0 t156).bind fun t157 => ((seqn_Later.f t155 a0).bind fun t158 => ((seqn_Later.f t158 t154).bind fun t159 => (if t157 = t159 then (if t157 = t155 then ((seqn_Later.f t154 a0).bind fun t160 => (if t160 = t154 then ((rampartlaw03_known.f).bind fun t161 => (some t161)) else (some false))) else (some false)) else (some false)))))) = some r := H
  have A5 := Aside0.mk A50
  clear A50
  replace H := Option.bind_eq_some_iff.mp H
  obtain ⟨t156, A60, H⟩ := H
  replace H : ((seqn_Later.f a0 t156).bind fun t157 => ((seqn_Later.f t155 a0).bind fun t158 => ((seqn_Later.f t158 t154).bind fun t159 => (if t157 = t159 then (if t157 = t155 then ((seqn_Later.f t154 a0).bind fun t160 => (if t160 = t154 then ((rampartlaw03_known.f).bind fun t161 => (some t161)) else (some false))) else (some false)) else (some false))))) = some r := H
  have A6 := Aside0.mk A60
  clear A60
  replace H := Option.bind_eq_some_iff.mp H
  obtain ⟨t157, A70, H⟩ := H
  replace H : ((seqn_Later.f t155 a0).bind fun t158 => ((seqn_Later.f t158 t154).bind fun t159 => (if t157 = t159 then (if t157 = t155 then ((seqn_Later.f t154 a0).bind fun t160 => (if t160 = t154 then ((rampartlaw03_known.f).bind fun t161 => (some t161)) else (some false))) else (some false)) else (some false)))) = some r := H
  have A7 := Aside0.mk A70
  clear A70
  replace H := Option.bind_eq_some_iff.mp H
  obtain ⟨t158, A80, H⟩ := H
  replace H : ((seqn_Later.f t158 t154).bind fun t159 => (if t157 = t159 then (if t157 = t155 then ((seqn_Later.f t154 a0).bind fun t160 => (if t160 = t154 then ((rampartlaw03_known.f).bind fun t161 => (some t161)) else (some false))) else (some false)) else (some false))) = some r := H
  have A8 := Aside0.mk A80
  clear A80
  replace H := Option.bind_eq_some_iff.mp H
  obtain ⟨t159, A90, H⟩ := H
  replace H : (if t157 = t159 then (if t157 = t155 then ((seqn_Later.f t154 a0).bind fun t160 => (if t160 = t154 then ((rampartlaw03_known.f).bind fun t161 => (some t161)) else (some false))) else (some false)) else (some false)) = some r := H
  have A9 := Aside0.mk A90
  clear A90
  by_cases c10 : t157 = t159
  · rw [if_pos c10] at H
    have c10b0 : (t157 == t159) = true := beq_iff_eq.mpr c10
    have c10b1 : (t157 != t159) = false := bne_eq_false_iff_eq.mpr c10
    clear c10
    by_cases c11 : t157 = t155
    · rw [if_pos c11] at H
      have c11b0 : (t157 == t155) = true := beq_iff_eq.mpr c11
      have c11b1 : (t157 != t155) = false := bne_eq_false_iff_eq.mpr c11
      clear c11
      replace H := Option.bind_eq_some_iff.mp H
      obtain ⟨t160, A120, H⟩ := H
      replace H : (if t160 = t154 then ((rampartlaw03_known.f).bind fun t161 => (some t161)) else (some false)) = some r := H
      have A12 := Aside0.mk A120
      clear A120
      by_cases c13 : t160 = t154
      · rw [if_pos c13] at H
        have c13b0 : (t160 == t154) = true := beq_iff_eq.mpr c13
        have c13b1 : (t160 != t154) = false := bne_eq_false_iff_eq.mpr c13
        clear c13
        replace H := Option.bind_eq_some_iff.mp H
        obtain ⟨t161, A140, H⟩ := H
        replace H : (some t161) = some r := H
        have A14 := Aside0.mk A140
        clear A140
        obtain rfl := Option.some.inj H
        go_enter Try.func8, Try.ntmps8
        go_wp2_with (first | ((with_reducible refine gate_callee (f := 26) rfl ?_); refine goesL_ (some 14) rfl rfl Try.func26 (by kernel_rfl) rfl #[.int .u32 a0, .int .i64 (wrap64 (a1))] rfl (by (try simp only [List.map_toArray, List.map_cons, List.map_nil]); first | done | rfl | (simp only [List.length_drop, List.length_take]; rfl)) ?_; (with_reducible refine (seqn_Step.calls a0 (wrap64 (a1)) t154 _ A4.out).mono ?_); rintro e w' ⟨rfl, ⟨nd, rfl⟩⟩; refine ⟨_, rfl, ?_⟩) | ((with_reducible refine gate_callee (f := 26) rfl ?_); refine goesL_ (some 18) rfl rfl Try.func26 (by kernel_rfl) rfl #[.int .u32 t154, .int .i64 (wrap64 (a2))] rfl (by (try simp only [List.map_toArray, List.map_cons, List.map_nil]); first | done | rfl | (simp only [List.length_drop, List.length_take]; rfl)) ?_; (with_reducible refine (seqn_Step.calls t154 (wrap64 (a2)) t155 _ A5.out).mono ?_); rintro e w' ⟨rfl, ⟨nd, rfl⟩⟩; refine ⟨_, rfl, ?_⟩) | ((with_reducible refine gate_callee (f := 20) rfl ?_); refine goesL_ (some 22) rfl rfl Try.func20 (by kernel_rfl) rfl #[.int .u32 t154, .int .u32 t155] rfl (by (try simp only [List.map_toArray, List.map_cons, List.map_nil]); first | done | rfl | (simp only [List.length_drop, List.length_take]; rfl)) ?_; (with_reducible refine (seqn_Later.calls t154 t155 t156 _ A6.out).mono ?_); rintro e w' ⟨rfl, ⟨nd, rfl⟩⟩; refine ⟨_, rfl, ?_⟩) | ((with_reducible refine gate_callee (f := 20) rfl ?_); refine goesL_ (some 23) rfl rfl Try.func20 (by kernel_rfl) rfl #[.int .u32 a0, .int .u32 t156] rfl (by (try simp only [List.map_toArray, List.map_cons, List.map_nil]); first | done | rfl | (simp only [List.length_drop, List.length_take]; rfl)) ?_; (with_reducible refine (seqn_Later.calls a0 t156 t157 _ A7.out).mono ?_); rintro e w' ⟨rfl, ⟨nd, rfl⟩⟩; refine ⟨_, rfl, ?_⟩) | ((with_reducible refine gate_callee (f := 20) rfl ?_); refine goesL_ (some 26) rfl rfl Try.func20 (by kernel_rfl) rfl #[.int .u32 t155, .int .u32 a0] rfl (by (try simp only [List.map_toArray, List.map_cons, List.map_nil]); first | done | rfl | (simp only [List.length_drop, List.length_take]; rfl)) ?_; (with_reducible refine (seqn_Later.calls t155 a0 t158 _ A8.out).mono ?_); rintro e w' ⟨rfl, ⟨nd, rfl⟩⟩; refine ⟨_, rfl, ?_⟩) | ((with_reducible refine gate_callee (f := 20) rfl ?_); refine goesL_ (some 28) rfl rfl Try.func20 (by kernel_rfl) rfl #[.int .u32 t158, .int .u32 t154] rfl (by (try simp only [List.map_toArray, List.map_cons, List.map_nil]); first | done | rfl | (simp only [List.length_drop, List.length_take]; rfl)) ?_; (with_reducible refine (seqn_Later.calls t158 t154 t159 _ A9.out).mono ?_); rintro e w' ⟨rfl, ⟨nd, rfl⟩⟩; refine ⟨_, rfl, ?_⟩) | (go_at_call 20; (with_reducible refine (seqn_Later.calls t154 a0 t160 _ A12.out).mono ?_); rintro e w' ⟨rfl, ⟨nd, rfl⟩⟩) | (go_at_call 28; (with_reducible refine (rampartlaw03_known.calls  t161 _ A14.out).mono ?_); rintro e w' ⟨rfl, ⟨nd, rfl⟩⟩))
        go_ret
        exact ⟨by first | rfl | (simp; done) | (simp [*]; done), by repeat (first | exact Drawn0.refl _ | apply Drawn0.step)⟩
      · rw [if_neg c13] at H
        have c13b0 : (t160 == t154) = false := beq_eq_false_iff_ne.mpr c13
        have c13b1 : (t160 != t154) = true := bne_iff_ne.mpr c13
        obtain rfl := Option.some.inj H
        go_enter Try.func8, Try.ntmps8
        go_wp2_with (first | ((with_reducible refine gate_callee (f := 26) rfl ?_); refine goesL_ (some 14) rfl rfl Try.func26 (by kernel_rfl) rfl #[.int .u32 a0, .int .i64 (wrap64 (a1))] rfl (by (try simp only [List.map_toArray, List.map_cons, List.map_nil]); first | done | rfl | (simp only [List.length_drop, List.length_take]; rfl)) ?_; (with_reducible refine (seqn_Step.calls a0 (wrap64 (a1)) t154 _ A4.out).mono ?_); rintro e w' ⟨rfl, ⟨nd, rfl⟩⟩; refine ⟨_, rfl, ?_⟩) | ((with_reducible refine gate_callee (f := 26) rfl ?_); refine goesL_ (some 18) rfl rfl Try.func26 (by kernel_rfl) rfl #[.int .u32 t154, .int .i64 (wrap64 (a2))] rfl (by (try simp only [List.map_toArray, List.map_cons, List.map_nil]); first | done | rfl | (simp only [List.length_drop, List.length_take]; rfl)) ?_; (with_reducible refine (seqn_Step.calls t154 (wrap64 (a2)) t155 _ A5.out).mono ?_); rintro e w' ⟨rfl, ⟨nd, rfl⟩⟩; refine ⟨_, rfl, ?_⟩) | ((with_reducible refine gate_callee (f := 20) rfl ?_); refine goesL_ (some 22) rfl rfl Try.func20 (by kernel_rfl) rfl #[.int .u32 t154, .int .u32 t155] rfl (by (try simp only [List.map_toArray, List.map_cons, List.map_nil]); first | done | rfl | (simp only [List.length_drop, List.length_take]; rfl)) ?_; (with_reducible refine (seqn_Later.calls t154 t155 t156 _ A6.out).mono ?_); rintro e w' ⟨rfl, ⟨nd, rfl⟩⟩; refine ⟨_, rfl, ?_⟩) | ((with_reducible refine gate_callee (f := 20) rfl ?_); refine goesL_ (some 23) rfl rfl Try.func20 (by kernel_rfl) rfl #[.int .u32 a0, .int .u32 t156] rfl (by (try simp only [List.map_toArray, List.map_cons, List.map_nil]); first | done | rfl | (simp only [List.length_drop, List.length_take]; rfl)) ?_; (with_reducible refine (seqn_Later.calls a0 t156 t157 _ A7.out).mono ?_); rintro e w' ⟨rfl, ⟨nd, rfl⟩⟩; refine ⟨_, rfl, ?_⟩) | ((with_reducible refine gate_callee (f := 20) rfl ?_); refine goesL_ (some 26) rfl rfl Try.func20 (by kernel_rfl) rfl #[.int .u32 t155, .int .u32 a0] rfl (by (try simp only [List.map_toArray, List.map_cons, List.map_nil]); first | done | rfl | (simp only [List.length_drop, List.length_take]; rfl)) ?_; (with_reducible refine (seqn_Later.calls t155 a0 t158 _ A8.out).mono ?_); rintro e w' ⟨rfl, ⟨nd, rfl⟩⟩; refine ⟨_, rfl, ?_⟩) | ((with_reducible refine gate_callee (f := 20) rfl ?_); refine goesL_ (some 28) rfl rfl Try.func20 (by kernel_rfl) rfl #[.int .u32 t158, .int .u32 t154] rfl (by (try simp only [List.map_toArray, List.map_cons, List.map_nil]); first | done | rfl | (simp only [List.length_drop, List.length_take]; rfl)) ?_; (with_reducible refine (seqn_Later.calls t158 t154 t159 _ A9.out).mono ?_); rintro e w' ⟨rfl, ⟨nd, rfl⟩⟩; refine ⟨_, rfl, ?_⟩) | (go_at_call 20; (with_reducible refine (seqn_Later.calls t154 a0 t160 _ A12.out).mono ?_); rintro e w' ⟨rfl, ⟨nd, rfl⟩⟩))
        go_ret
        exact ⟨by first | rfl | (simp; done) | (simp [*]; done), by repeat (first | exact Drawn0.refl _ | apply Drawn0.step)⟩
    · rw [if_neg c11] at H
      have c11b0 : (t157 == t155) = false := beq_eq_false_iff_ne.mpr c11
      have c11b1 : (t157 != t155) = true := bne_iff_ne.mpr c11
      obtain rfl := Option.some.inj H
      go_enter Try.func8, Try.ntmps8
      go_wp2_with (first | ((with_reducible refine gate_callee (f := 26) rfl ?_); refine goesL_ (some 14) rfl rfl Try.func26 (by kernel_rfl) rfl #[.int .u32 a0, .int .i64 (wrap64 (a1))] rfl (by (try simp only [List.map_toArray, List.map_cons, List.map_nil]); first | done | rfl | (simp only [List.length_drop, List.length_take]; rfl)) ?_; (with_reducible refine (seqn_Step.calls a0 (wrap64 (a1)) t154 _ A4.out).mono ?_); rintro e w' ⟨rfl, ⟨nd, rfl⟩⟩; refine ⟨_, rfl, ?_⟩) | ((with_reducible refine gate_callee (f := 26) rfl ?_); refine goesL_ (some 18) rfl rfl Try.func26 (by kernel_rfl) rfl #[.int .u32 t154, .int .i64 (wrap64 (a2))] rfl (by (try simp only [List.map_toArray, List.map_cons, List.map_nil]); first | done | rfl | (simp only [List.length_drop, List.length_take]; rfl)) ?_; (with_reducible refine (seqn_Step.calls t154 (wrap64 (a2)) t155 _ A5.out).mono ?_); rintro e w' ⟨rfl, ⟨nd, rfl⟩⟩; refine ⟨_, rfl, ?_⟩) | ((with_reducible refine gate_callee (f := 20) rfl ?_); refine goesL_ (some 22) rfl rfl Try.func20 (by kernel_rfl) rfl #[.int .u32 t154, .int .u32 t155] rfl (by (try simp only [List.map_toArray, List.map_cons, List.map_nil]); first | done | rfl | (simp only [List.length_drop, List.length_take]; rfl)) ?_; (with_reducible refine (seqn_Later.calls t154 t155 t156 _ A6.out).mono ?_); rintro e w' ⟨rfl, ⟨nd, rfl⟩⟩; refine ⟨_, rfl, ?_⟩) | ((with_reducible refine gate_callee (f := 20) rfl ?_); refine goesL_ (some 23) rfl rfl Try.func20 (by kernel_rfl) rfl #[.int .u32 a0, .int .u32 t156] rfl (by (try simp only [List.map_toArray, List.map_cons, List.map_nil]); first | done | rfl | (simp only [List.length_drop, List.length_take]; rfl)) ?_; (with_reducible refine (seqn_Later.calls a0 t156 t157 _ A7.out).mono ?_); rintro e w' ⟨rfl, ⟨nd, rfl⟩⟩; refine ⟨_, rfl, ?_⟩) | ((with_reducible refine gate_callee (f := 20) rfl ?_); refine goesL_ (some 26) rfl rfl Try.func20 (by kernel_rfl) rfl #[.int .u32 t155, .int .u32 a0] rfl (by (try simp only [List.map_toArray, List.map_cons, List.map_nil]); first | done | rfl | (simp only [List.length_drop, List.length_take]; rfl)) ?_; (with_reducible refine (seqn_Later.calls t155 a0 t158 _ A8.out).mono ?_); rintro e w' ⟨rfl, ⟨nd, rfl⟩⟩; refine ⟨_, rfl, ?_⟩) | ((with_reducible refine gate_callee (f := 20) rfl ?_); refine goesL_ (some 28) rfl rfl Try.func20 (by kernel_rfl) rfl #[.int .u32 t158, .int .u32 t154] rfl (by (try simp only [List.map_toArray, List.map_cons, List.map_nil]); first | done | rfl | (simp only [List.length_drop, List.length_take]; rfl)) ?_; (with_reducible refine (seqn_Later.calls t158 t154 t159 _ A9.out).mono ?_); rintro e w' ⟨rfl, ⟨nd, rfl⟩⟩; refine ⟨_, rfl, ?_⟩))
      go_ret
      exact ⟨by first | rfl | (simp; done) | (simp [*]; done), by repeat (first | exact Drawn0.refl _ | apply Drawn0.step)⟩
  · rw [if_neg c10] at H
    have c10b0 : (t157 == t159) = false := beq_eq_false_iff_ne.mpr c10
    have c10b1 : (t157 != t159) = true := bne_iff_ne.mpr c10
    obtain rfl := Option.some.inj H
    go_enter Try.func8, Try.ntmps8
    go_wp2_with (first | ((with_reducible refine gate_callee (f := 26) rfl ?_); refine goesL_ (some 14) rfl rfl Try.func26 (by kernel_rfl) rfl #[.int .u32 a0, .int .i64 (wrap64 (a1))] rfl (by (try simp only [List.map_toArray, List.map_cons, List.map_nil]); first | done | rfl | (simp only [List.length_drop, List.length_take]; rfl)) ?_; (with_reducible refine (seqn_Step.calls a0 (wrap64 (a1)) t154 _ A4.out).mono ?_); rintro e w' ⟨rfl, ⟨nd, rfl⟩⟩; refine ⟨_, rfl, ?_⟩) | ((with_reducible refine gate_callee (f := 26) rfl ?_); refine goesL_ (some 18) rfl rfl Try.func26 (by kernel_rfl) rfl #[.int .u32 t154, .int .i64 (wrap64 (a2))] rfl (by (try simp only [List.map_toArray, List.map_cons, List.map_nil]); first | done | rfl | (simp only [List.length_drop, List.length_take]; rfl)) ?_; (with_reducible refine (seqn_Step.calls t154 (wrap64 (a2)) t155 _ A5.out).mono ?_); rintro e w' ⟨rfl, ⟨nd, rfl⟩⟩; refine ⟨_, rfl, ?_⟩) | ((with_reducible refine gate_callee (f := 20) rfl ?_); refine goesL_ (some 22) rfl rfl Try.func20 (by kernel_rfl) rfl #[.int .u32 t154, .int .u32 t155] rfl (by (try simp only [List.map_toArray, List.map_cons, List.map_nil]); first | done | rfl | (simp only [List.length_drop, List.length_take]; rfl)) ?_; (with_reducible refine (seqn_Later.calls t154 t155 t156 _ A6.out).mono ?_); rintro e w' ⟨rfl, ⟨nd, rfl⟩⟩; refine ⟨_, rfl, ?_⟩) | ((with_reducible refine gate_callee (f := 20) rfl ?_); refine goesL_ (some 23) rfl rfl Try.func20 (by kernel_rfl) rfl #[.int .u32 a0, .int .u32 t156] rfl (by (try simp only [List.map_toArray, List.map_cons, List.map_nil]); first | done | rfl | (simp only [List.length_drop, List.length_take]; rfl)) ?_; (with_reducible refine (seqn_Later.calls a0 t156 t157 _ A7.out).mono ?_); rintro e w' ⟨rfl, ⟨nd, rfl⟩⟩; refine ⟨_, rfl, ?_⟩) | ((with_reducible refine gate_callee (f := 20) rfl ?_); refine goesL_ (some 26) rfl rfl Try.func20 (by kernel_rfl) rfl #[.int .u32 t155, .int .u32 a0] rfl (by (try simp only [List.map_toArray, List.map_cons, List.map_nil]); first | done | rfl | (simp only [List.length_drop, List.length_take]; rfl)) ?_; (with_reducible refine (seqn_Later.calls t155 a0 t158 _ A8.out).mono ?_); rintro e w' ⟨rfl, ⟨nd, rfl⟩⟩; refine ⟨_, rfl, ?_⟩) | ((with_reducible refine gate_callee (f := 20) rfl ?_); refine goesL_ (some 28) rfl rfl Try.func20 (by kernel_rfl) rfl #[.int .u32 t158, .int .u32 t154] rfl (by (try simp only [List.map_toArray, List.map_cons, List.map_nil]); first | done | rfl | (simp only [List.length_drop, List.length_take]; rfl)) ?_; (with_reducible refine (seqn_Later.calls t158 t154 t159 _ A9.out).mono ?_); rintro e w' ⟨rfl, ⟨nd, rfl⟩⟩; refine ⟨_, rfl, ?_⟩))
    go_ret
    exact ⟨by first | rfl | (simp; done) | (simp [*]; done), by repeat (first | exact Drawn0.refl _ | apply Drawn0.step)⟩

/-- THE ONE PURE STATEMENT of rampartlaw03_SeqnLater: yours. -/
def rampartlaw03_SeqnLater.Pure : Prop := ∀ (a0 : Int) (a1 : Int) (a2 : Int), (Lit.int .u32 a0).wf = true → (Lit.int .u16 a1).wf = true → (Lit.int .u16 a2).wf = true → rampartlaw03_SeqnLater.f a0 a1 a2 = some true
theorem rampartlaw03_SeqnLater.walk (P : rampartlaw03_SeqnLater.Pure) (a0 : Int) (a1 : Int) (a2 : Int) (w : World) (w0 : (Lit.int .u32 a0).wf = true) (w1 : (Lit.int .u16 a1).wf = true) (w2 : (Lit.int .u16 a2).wf = true) :
    Calls Try.prog 8 #[.int .u32 a0, .int .u16 a1, .int .u16 a2] w fun e w' => e = .returned (.bool true) ∧ Below w.heap.size w w' := by
  have h := P a0 a1 a2 w0 w1 w2
  refine (rampartlaw03_SeqnLater.calls a0 a1 a2 true w h).mono ?_
  rintro e w' ⟨rfl, hd⟩
  exact ⟨rfl, hd.below⟩

end Go.Proofs.Ytbmekfammbfadaa.PAll
