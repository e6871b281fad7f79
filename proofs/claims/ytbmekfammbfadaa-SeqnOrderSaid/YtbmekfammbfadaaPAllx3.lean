-- Written by a program of this work (wip/mkprint.py, wip/myprint.sh) out of the translation; not trusted: Lean checks it.
import Derived.Test.YtbmekfammbfadaaPAllx0
import Derived.Test.YtbmekfammbfadaaPAllx1
import Derived.Test.YtbmekfammbfadaaPAllx2
namespace Go.Proofs.Ytbmekfammbfadaa.PAll
open Go.RowKit Go.Proofs.YtbmekfammbfadaaW.PrintWords Go.Proofs.YtbmekfammbfadaaW.PrintLast Go.Proofs.YtbmekfammbfadaaW.PrintMore
attribute [local go_sem] max2_int min2_int max_two min_two max_three min_three max_four min_four   -- for this text's walks alone
set_option linter.unusedVariables false
set_option linter.unusedSimpArgs false

/-! ### rampartlaw03_SeqnOrder: function 5 -/
def rampartlaw03_SeqnOrder.j0 : Nat → Int → Int → Bool → Option (Bool)
  | 0, _, _, _ => none
  | k + 1, x0, x1, x32 => if x32 = true then (some false) else ((seqn_Gap.f x0 x1).bind fun t134 => (if t134 = (-2147483648) then ((seqn_Before.f x0 x1).bind fun t135 => (if t135 = true then (some false) else ((seqn_Before.f x1 x0).bind fun t136 => (if t136 = true then (some false) else ((rampartlaw03_known.f).bind fun t137 => (some t137)))))) else ((seqn_Upto.f x0 x1).bind fun t138 => ((seqn_Before.f x1 x0).bind fun t139 => (if (t138 == (!t139)) = true then ((seqn_Later.f x0 x1).bind fun t140 => ((seqn_Later.f x1 x0).bind fun t141 => (if t140 = t141 then ((rampartlaw03_known.f).bind fun t142 => (some t142)) else (some false)))) else (some false))))))
def rampartlaw03_SeqnOrder.f (k : Nat) (a0 : Int) (a1 : Int) (a2 : Int) : Option (Bool) := (seqn_Step.f a0 (wrap64 (a2))).bind fun t128 => ((seqn_Step.f a1 (wrap64 (a2))).bind fun t129 => ((seqn_Before.f a0 a1).bind fun t130 => ((seqn_Before.f t128 t129).bind fun t131 => (if (t130 != t131) = true then (rampartlaw03_SeqnOrder.j0 k a0 a1 true) else ((seqn_Upto.f a0 a1).bind fun t132 => ((seqn_Upto.f t128 t129).bind fun t133 => (rampartlaw03_SeqnOrder.j0 k a0 a1 (t132 != t133))))))))
theorem rampartlaw03_SeqnOrder.mono_l : ∀ k, (∀ y0 y1 y2, LeO (rampartlaw03_SeqnOrder.j0 k y0 y1 y2) (rampartlaw03_SeqnOrder.j0 (k + 1) y0 y1 y2))
  | 0 => fun _ _ _ r h => by simp [rampartlaw03_SeqnOrder.j0] at h
  | k + 1 => by
    have ih0 := rampartlaw03_SeqnOrder.mono_l k
    · intro y0 y1 y2
      unfold rampartlaw03_SeqnOrder.j0
      repeat' first
      | (with_reducible exact ih0 _ _ _)
      | (with_reducible exact LeO.refl _)
      | (with_reducible exact LeO.none _)
      | (with_reducible refine LeO.ite ?_ ?_)
      | (with_reducible refine LeO.bind ?_ (fun _ => ?_))
      | exact ih0 _ _ _
      | exact LeO.none _
      | refine LeO.ite ?_ ?_
      | refine LeO.bind ?_ (fun _ => ?_)
theorem rampartlaw03_SeqnOrder.mono : ∀ a0 a1 a2 k, LeO (rampartlaw03_SeqnOrder.f k a0 a1 a2) (rampartlaw03_SeqnOrder.f (k + 1) a0 a1 a2) := by
  intro a0 a1 a2 k
  have ih0 := rampartlaw03_SeqnOrder.mono_l k
  unfold rampartlaw03_SeqnOrder.f
  repeat' first
      | (with_reducible exact ih0 _ _ _)
      | (with_reducible exact LeO.refl _)
      | (with_reducible exact LeO.none _)
      | (with_reducible refine LeO.ite ?_ ?_)
      | (with_reducible refine LeO.bind ?_ (fun _ => ?_))
      | exact ih0 _ _ _
      | exact LeO.none _
      | refine LeO.ite ?_ ?_
      | refine LeO.bind ?_ (fun _ => ?_)
set_option maxHeartbeats 8000000 in
set_option maxRecDepth 100000 in
theorem rampartlaw03_SeqnOrder.calls (k : Nat) (a0 : Int) (a1 : Int) (a2 : Int) (r : Bool) (w : World) (h : rampartlaw03_SeqnOrder.f k a0 a1 a2 = some r) :
    Calls Try.prog 5 #[.int .u32 a0, .int .u32 a1, .int .i32 a2] w fun e w' => e = .returned (.bool r) ∧ Drawn0 w w' := by
  have H : ((seqn_Step.f a0 (wrap64 (a2))).bind fun t128 => ((seqn_Step.f a1 (wrap64 (a2))).bind fun t129 => ((seqn_Before.f a0 a1).bind fun t130 => ((seqn_Before.f t128 t129).bind fun t131 => (if (t130 != t131) = true then (rampartlaw03_SeqnOrder.j0 k a0 a1 true) else ((seqn_Upto.f a0 a1).bind fun t132 => ((seqn_Upto.f t128 t129).bind fun t133 => (rampartlaw03_SeqnOrder.j0 k a0 a1 (t132 != t133))))))))) = some r := h
  clear h
  replace H := Option.bind_eq_some_iff.mp H
  obtain ⟨t128, A40, H⟩ := H
  replace H : ((seqn_Step.f a1 (wrap64 (a2))).bind fun t129 => ((seqn_Before.f a0 a1).bind fun t130 => ((seqn_Before.f t128 t129).bind fun t131 => (if (t130 != t131) = true then (rampartlaw03_SeqnOrder.j0 k a0 a1 true) else ((seqn_Upto.f a0 a1).bind fun t132 => ((seqn_Upto.f t128 t129).bind fun t133 => (rampartlaw03_SeqnOrder.j0 k a0 a1 (t132 != t133)))))))) = some r := H
  have A4 := Aside0.mk A40
  clear A40
  replace H := Option.bind_eq_some_iff.mp H
  obtain ⟨t129, A50, H⟩ := H
  replace H : ((seqn_Before.f a0 a1).bind fun t130 => ((seqn_Before.f t128 t129).bind fun t131 => (if (t130 != t131) = true then (rampartlaw03_SeqnOrder.j0 k a0 a1 true) else ((seqn_Upto.f a0 a1).bind fun t132 => ((seqn_Upto.f t128 t129).bind fun t133 => (rampartlaw03_SeqnOrder.j0 k a0 a1 (t132 != t133))))))) = some r := H
  have A5 := Aside0.mk A50
  clear A50
  have HC6 := Aside0.mk H
  clear H
  go_enter Try.func5, Try.ntmps5
  go_upto_region 3 with (first | ((with_reducible refine gate_callee (f := 26) rfl ?_); refine goesL_ (some 12) rfl rfl Try.func26 (by kernel_rfl) rfl #[.int .u32 a0, .int .i64 (wrap64 (a2))] rfl (by (try simp only [List.map_toArray, List.map_cons, List.map_nil]); first | done | rfl | (simp only [List.length_drop, List.length_take]; rfl)) ?_; (with_reducible refine (seqn_Step.calls a0 (wrap64 (a2)) t128 _ A4.out).mono ?_); rintro e w' ⟨rfl, ⟨nd, rfl⟩⟩; refine ⟨_, rfl, ?_⟩) | ((with_reducible refine gate_callee (f := 26) rfl ?_); refine goesL_ (some 16) rfl rfl Try.func26 (by kernel_rfl) rfl #[.int .u32 a1, .int .i64 (wrap64 (a2))] rfl (by (try simp only [List.map_toArray, List.map_cons, List.map_nil]); first | done | rfl | (simp only [List.length_drop, List.length_take]; rfl)) ?_; (with_reducible refine (seqn_Step.calls a1 (wrap64 (a2)) t129 _ A5.out).mono ?_); rintro e w' ⟨rfl, ⟨nd, rfl⟩⟩; refine ⟨_, rfl, ?_⟩))
  (try simp only [Act.put, List.setIfInBounds_toArray, List.set_cons_zero, List.set_cons_succ])
  go_cut [32] (fun v32 wc => ∃ (kq : Nat) (x32_5 : Bool), v32 = .bool x32_5 ∧ Aside0 (rampartlaw03_SeqnOrder.j0 kq a0 a1 x32_5 = some r) ∧ Aside0 (kq ≤ k) ∧ Drawn0 w wc)
  case first =>
    have H := HC6.out
    clear HC6
    replace H := Option.bind_eq_some_iff.mp H
    obtain ⟨t130, A70, H⟩ := H
    replace H : ((seqn_Before.f t128 t129).bind fun t131 => (if (t130 != t131) = true then (rampartlaw03_SeqnOrder.j0 k a0 a1 true) else ((seqn_Upto.f a0 a1).bind fun t132 => ((seqn_Upto.f t128 t129).bind fun t133 => (rampartlaw03_SeqnOrder.j0 k a0 a1 (t132 != t133)))))) = some r := H
    have A7 := Aside0.mk A70
    clear A70
    replace H := Option.bind_eq_some_iff.mp H
    obtain ⟨t131, A80, H⟩ := H
    replace H : (if (t130 != t131) = true then (rampartlaw03_SeqnOrder.j0 k a0 a1 true) else ((seqn_Upto.f a0 a1).bind fun t132 => ((seqn_Upto.f t128 t129).bind fun t133 => (rampartlaw03_SeqnOrder.j0 k a0 a1 (t132 != t133))))) = some r := H
    have A8 := Aside0.mk A80
    clear A80
    by_cases c9 : (t130 != t131) = true
    · rw [if_pos c9] at H
      have c9b0 : (t130 != t131) = true := c9
      (try (have c9b1 : decide (t130 = t131) = false := by simpa using c9))
      (try (have c9b2 : (t130 == t131) = false := by simpa using c9))
      (try (have c9b3 : ¬ (t130 = t131) := by simpa using c9))
      clear c9
      (first | rw [c9b0] | (simp only [i64_w, i32_w]; rw [c9b0]) | skip)
      have H' := Aside0.mk H
      clear H
      go_wp2_with (first | ((with_reducible refine gate_callee (f := 16) rfl ?_); refine goesL_ (some 19) rfl rfl Try.func16 (by kernel_rfl) rfl #[.int .u32 a0, .int .u32 a1] rfl (by (try simp only [List.map_toArray, List.map_cons, List.map_nil]); first | done | rfl | (simp only [List.length_drop, List.length_take]; rfl)) ?_; (with_reducible refine (seqn_Before.calls a0 a1 t130 _ A7.out).mono ?_); rintro e w' ⟨rfl, ⟨nd, rfl⟩⟩; refine ⟨_, rfl, ?_⟩) | ((with_reducible refine gate_callee (f := 16) rfl ?_); refine goesL_ (some 22) rfl rfl Try.func16 (by kernel_rfl) rfl #[.int .u32 t128, .int .u32 t129] rfl (by (try simp only [List.map_toArray, List.map_cons, List.map_nil]); first | done | rfl | (simp only [List.length_drop, List.length_take]; rfl)) ?_; (with_reducible refine (seqn_Before.calls t128 t129 t131 _ A8.out).mono ?_); rintro e w' ⟨rfl, ⟨nd, rfl⟩⟩; refine ⟨_, rfl, ?_⟩))
      go_meet
      case rel => exact ⟨_, (true), (by first | rfl | (simp; done) | (simp [*]; done)), H', ⟨by first | omega | exact Nat.le_refl _⟩, by repeat (first | exact Drawn0.refl _ | apply Drawn0.step)⟩
    · rw [if_neg c9] at H
      have c9b0 : (t130 != t131) = false := by simpa using c9
      (try (have c9b1 : decide (t130 = t131) = true := by simpa using c9))
      (try (have c9b2 : (t130 == t131) = true := by simpa using c9))
      clear c9
      (first | rw [c9b0] | (simp only [i64_w, i32_w]; rw [c9b0]) | skip)
      replace H := Option.bind_eq_some_iff.mp H
      obtain ⟨t132, A100, H⟩ := H
      replace H : ((seqn_Upto.f t128 t129).bind fun t133 => (rampartlaw03_SeqnOrder.j0 k a0 a1 (t132 != t133))) = some r := H
      have A10 := Aside0.mk A100
      clear A100
      replace H := Option.bind_eq_some_iff.mp H
      obtain ⟨t133, A110, H⟩ := H
      replace H : (rampartlaw03_SeqnOrder.j0 k a0 a1 (t132 != t133)) = some r := H
      have A11 := Aside0.mk A110
      clear A110
      have H' := Aside0.mk H
      clear H
      go_wp2_with (first | ((with_reducible refine gate_callee (f := 16) rfl ?_); refine goesL_ (some 19) rfl rfl Try.func16 (by kernel_rfl) rfl #[.int .u32 a0, .int .u32 a1] rfl (by (try simp only [List.map_toArray, List.map_cons, List.map_nil]); first | done | rfl | (simp only [List.length_drop, List.length_take]; rfl)) ?_; (with_reducible refine (seqn_Before.calls a0 a1 t130 _ A7.out).mono ?_); rintro e w' ⟨rfl, ⟨nd, rfl⟩⟩; refine ⟨_, rfl, ?_⟩) | ((with_reducible refine gate_callee (f := 16) rfl ?_); refine goesL_ (some 22) rfl rfl Try.func16 (by kernel_rfl) rfl #[.int .u32 t128, .int .u32 t129] rfl (by (try simp only [List.map_toArray, List.map_cons, List.map_nil]); first | done | rfl | (simp only [List.length_drop, List.length_take]; rfl)) ?_; (with_reducible refine (seqn_Before.calls t128 t129 t131 _ A8.out).mono ?_); rintro e w' ⟨rfl, ⟨nd, rfl⟩⟩; refine ⟨_, rfl, ?_⟩) | (go_at_call 18; (with_reducible refine (seqn_Upto.calls a0 a1 t132 _ A10.out).mono ?_); rintro e w' ⟨rfl, ⟨nd, rfl⟩⟩) | (go_at_call 18; (with_reducible refine (seqn_Upto.calls t128 t129 t133 _ A11.out).mono ?_); rintro e w' ⟨rfl, ⟨nd, rfl⟩⟩))
      go_meet
      case rel => exact ⟨_, ((t132 != t133)), (by first | rfl | (simp; done) | (simp [*]; done)), H', ⟨by first | omega | exact Nat.le_refl _⟩, by repeat (first | exact Drawn0.refl _ | apply Drawn0.step)⟩
  case rest =>
    clear HC6
    try clear c1
    try clear c2
    try clear p2
    try clear c5
    try clear p6
    try clear c9
    try clear c9b0
    try clear c9b1
    try clear c9b2
    obtain ⟨kq, x32_5, rfl, HA, HJ5, ⟨mc5, rfl⟩⟩ := hcut
    cases kq with
    | zero => exact absurd HA.out (by simp [rampartlaw03_SeqnOrder.j0])
    | succ kj5 =>
      have H := HA.out
      clear HA
      simp only [rampartlaw03_SeqnOrder.j0] at H
      by_cases c12 : x32_5 = true
      · subst c12
        have H1 : (some false) = some r := by rw [if_pos rfl] at H; exact H
        clear H
        have H := H1
        clear H1
        obtain rfl := Option.some.inj H
        go_wp2
        go_ret
        exact ⟨by first | rfl | (simp; done) | (simp [*]; done), by repeat (first | exact Drawn0.refl _ | apply Drawn0.step)⟩
      · replace c12 := Bool.eq_false_iff.mpr c12
        subst c12
        have H1 : ((seqn_Gap.f a0 a1).bind fun t134 => (if t134 = (-2147483648) then ((seqn_Before.f a0 a1).bind fun t135 => (if t135 = true then (some false) else ((seqn_Before.f a1 a0).bind fun t136 => (if t136 = true then (some false) else ((rampartlaw03_known.f).bind fun t137 => (some t137)))))) else ((seqn_Upto.f a0 a1).bind fun t138 => ((seqn_Before.f a1 a0).bind fun t139 => (if (t138 == (!t139)) = true then ((seqn_Later.f a0 a1).bind fun t140 => ((seqn_Later.f a1 a0).bind fun t141 => (if t140 = t141 then ((rampartlaw03_known.f).bind fun t142 => (some t142)) else (some false)))) else (some false)))))) = some r := by rw [if_neg (show ¬ (false = true) by decide)] at H; exact H
        clear H
        have H := H1
        clear H1
        replace H := Option.bind_eq_some_iff.mp H
        obtain ⟨t134, A130, H⟩ := H
        replace H : (if t134 = (-2147483648) then ((seqn_Before.f a0 a1).bind fun t135 => (if t135 = true then (some false) else ((seqn_Before.f a1 a0).bind fun t136 => (if t136 = true then (some false) else ((rampartlaw03_known.f).bind fun t137 => (some t137)))))) else ((seqn_Upto.f a0 a1).bind fun t138 => ((seqn_Before.f a1 a0).bind fun t139 => (if (t138 == (!t139)) = true then ((seqn_Later.f a0 a1).bind fun t140 => ((seqn_Later.f a1 a0).bind fun t141 => (if t140 = t141 then ((rampartlaw03_known.f).bind fun t142 => (some t142)) else (some false)))) else (some false))))) = some r := H
        have A13 := Aside0.mk A130
        clear A130
        by_cases c14 : t134 = (-2147483648)
        · rw [if_pos c14] at H
          have c14b0 : (t134 == (-2147483648)) = true := beq_iff_eq.mpr c14
          have c14b1 : (t134 != (-2147483648)) = false := bne_eq_false_iff_eq.mpr c14
          clear c14
          replace H := Option.bind_eq_some_iff.mp H
          obtain ⟨t135, A150, H⟩ := H
          replace H : (if t135 = true then (some false) else ((seqn_Before.f a1 a0).bind fun t136 => (if t136 = true then (some false) else ((rampartlaw03_known.f).bind fun t137 => (some t137))))) = some r := H
          have A15 := Aside0.mk A150
          clear A150
          by_cases c16 : t135 = true
          · subst c16
            have H1 : (some false) = some r := by rw [if_pos rfl] at H; exact H
            clear H
            have H := H1
            clear H1
            obtain rfl := Option.some.inj H
            go_wp2_with (first | ((with_reducible refine gate_callee (f := 14) rfl ?_); refine goesL_ (some 35) rfl rfl Try.func14 (by kernel_rfl) rfl #[.int .u32 a0, .int .u32 a1] rfl (by (try simp only [List.map_toArray, List.map_cons, List.map_nil]); first | done | rfl | (simp only [List.length_drop, List.length_take]; rfl)) ?_; (with_reducible refine (seqn_Gap.calls a0 a1 t134 _ A13.out).mono ?_); rintro e w' ⟨rfl, ⟨nd, rfl⟩⟩; refine ⟨_, rfl, ?_⟩) | ((with_reducible refine gate_callee (f := 16) rfl ?_); refine goesL_ (some 39) rfl rfl Try.func16 (by kernel_rfl) rfl #[.int .u32 a0, .int .u32 a1] rfl (by (try simp only [List.map_toArray, List.map_cons, List.map_nil]); first | done | rfl | (simp only [List.length_drop, List.length_take]; rfl)) ?_; (with_reducible refine (seqn_Before.calls a0 a1 true _ A15.out).mono ?_); rintro e w' ⟨rfl, ⟨nd, rfl⟩⟩; refine ⟨_, rfl, ?_⟩))
            go_ret
            exact ⟨by first | rfl | (simp; done) | (simp [*]; done), by repeat (first | exact Drawn0.refl _ | apply Drawn0.step)⟩
          · replace c16 := Bool.eq_false_iff.mpr c16
            subst c16
            have H1 : ((seqn_Before.f a1 a0).bind fun t136 => (if t136 = true then (some false) else ((rampartlaw03_known.f).bind fun t137 => (some t137)))) = some r := by rw [if_neg (show ¬ (false = true) by decide)] at H; exact H
            clear H
            have H := H1
            clear H1
            replace H := Option.bind_eq_some_iff.mp H
            obtain ⟨t136, A170, H⟩ := H
            replace H : (if t136 = true then (some false) else ((rampartlaw03_known.f).bind fun t137 => (some t137))) = some r := H
            have A17 := Aside0.mk A170
            clear A170
            by_cases c18 : t136 = true
            · subst c18
              have H1 : (some false) = some r := by rw [if_pos rfl] at H; exact H
              clear H
              have H := H1
              clear H1
              obtain rfl := Option.some.inj H
              go_wp2_with (first | ((with_reducible refine gate_callee (f := 14) rfl ?_); refine goesL_ (some 35) rfl rfl Try.func14 (by kernel_rfl) rfl #[.int .u32 a0, .int .u32 a1] rfl (by (try simp only [List.map_toArray, List.map_cons, List.map_nil]); first | done | rfl | (simp only [List.length_drop, List.length_take]; rfl)) ?_; (with_reducible refine (seqn_Gap.calls a0 a1 t134 _ A13.out).mono ?_); rintro e w' ⟨rfl, ⟨nd, rfl⟩⟩; refine ⟨_, rfl, ?_⟩) | ((with_reducible refine gate_callee (f := 16) rfl ?_); refine goesL_ (some 39) rfl rfl Try.func16 (by kernel_rfl) rfl #[.int .u32 a0, .int .u32 a1] rfl (by (try simp only [List.map_toArray, List.map_cons, List.map_nil]); first | done | rfl | (simp only [List.length_drop, List.length_take]; rfl)) ?_; (with_reducible refine (seqn_Before.calls a0 a1 false _ A15.out).mono ?_); rintro e w' ⟨rfl, ⟨nd, rfl⟩⟩; refine ⟨_, rfl, ?_⟩) | (go_at_call 16; (with_reducible refine (seqn_Before.calls a1 a0 true _ A17.out).mono ?_); rintro e w' ⟨rfl, ⟨nd, rfl⟩⟩))
              go_ret
              exact ⟨by first | rfl | (simp; done) | (simp [*]; done), by repeat (first | exact Drawn0.refl _ | apply Drawn0.step)⟩
            · replace c18 := Bool.eq_false_iff.mpr c18
              subst c18
              have H1 : ((rampartlaw03_known.f).bind fun t137 => (some t137)) = some r := by rw [if_neg (show ¬ (false = true) by decide)] at H; exact H
              clear H
              have H := H1
              clear H1
              replace H := Option.bind_eq_some_iff.mp H
              obtain ⟨t137, A190, H⟩ := H
              replace H : (some t137) = some r := H
              have A19 := Aside0.mk A190
              clear A190
              obtain rfl := Option.some.inj H
              go_wp2_with (first | ((with_reducible refine gate_callee (f := 14) rfl ?_); refine goesL_ (some 35) rfl rfl Try.func14 (by kernel_rfl) rfl #[.int .u32 a0, .int .u32 a1] rfl (by (try simp only [List.map_toArray, List.map_cons, List.map_nil]); first | done | rfl | (simp only [List.length_drop, List.length_take]; rfl)) ?_; (with_reducible refine (seqn_Gap.calls a0 a1 t134 _ A13.out).mono ?_); rintro e w' ⟨rfl, ⟨nd, rfl⟩⟩; refine ⟨_, rfl, ?_⟩) | ((with_reducible refine gate_callee (f := 16) rfl ?_); refine goesL_ (some 39) rfl rfl Try.func16 (by kernel_rfl) rfl #[.int .u32 a0, .int .u32 a1] rfl (by (try simp only [List.map_toArray, List.map_cons, List.map_nil]); first | done | rfl | (simp only [List.length_drop, List.length_take]; rfl)) ?_; (with_reducible refine (seqn_Before.calls a0 a1 false _ A15.out).mono ?_); rintro e w' ⟨rfl, ⟨nd, rfl⟩⟩; refine ⟨_, rfl, ?_⟩) | (go_at_call 16; (with_reducible refine (seqn_Before.calls a1 a0 false _ A17.out).mono ?_); rintro e w' ⟨rfl, ⟨nd, rfl⟩⟩) | (go_at_call 28; (with_reducible refine (rampartlaw03_known.calls  t137 _ A19.out).mono ?_); rintro e w' ⟨rfl, ⟨nd, rfl⟩⟩))
              go_ret
              exact ⟨by first | rfl | (simp; done) | (simp [*]; done), by repeat (first | exact Drawn0.refl _ | apply Drawn0.step)⟩
        · rw [if_neg c14] at H
          have c14b0 : (t134 == (-2147483648)) = false := beq_eq_false_iff_ne.mpr c14
          have c14b1 : (t134 != (-2147483648)) = true := bne_iff_ne.mpr c14
          replace H := Option.bind_eq_some_iff.mp H
          obtain ⟨t138, A200, H⟩ := H
          replace H : ((seqn_Before.f a1 a0).bind fun t139 => (if (t138 == (!t139)) = true then ((seqn_Later.f a0 a1).bind fun t140 => ((seqn_Later.f a1 a0).bind fun t141 => (if t140 = t141 then ((rampartlaw03_known.f).bind fun t142 => (some t142)) else (some false)))) else (some false))) = some r := H
          have A20 := Aside0.mk A200
          clear A200
          replace H := Option.bind_eq_some_iff.mp H
          obtain ⟨t139, A210, H⟩ := H
          replace H : (if (t138 == (!t139)) = true then ((seqn_Later.f a0 a1).bind fun t140 => ((seqn_Later.f a1 a0).bind fun t141 => (if t140 = t141 then ((rampartlaw03_known.f).bind fun t142 => (some t142)) else (some false)))) else (some false)) = some r := H
          have A21 := Aside0.mk A210
          clear A210
          by_cases c22 : (t138 == (!t139)) = true
          · rw [if_pos c22] at H
            have c22b0 : (t138 == (!t139)) = true := c22
            (try (have c22b1 : decide (t138 = (!t139)) = true := by simpa using c22))
            (try (have c22b2 : (t138 == (!t139)) = true := by simpa using c22))
            clear c22
            replace H := Option.bind_eq_some_iff.mp H
            obtain ⟨t140, A230, H⟩ := H
            replace H : ((seqn_Later.f a1 a0).bind fun t141 => (if t140 = t141 then ((rampartlaw03_known.f).bind fun t142 => (some t142)) else (some false))) = some r := H
            have A23 := Aside0.mk A230
            clear A230
            replace H := Option.bind_eq_some_iff.mp H
            obtain ⟨t141, A240, H⟩ := H
            replace H : (if t140 = t141 then ((rampartlaw03_known.f).bind fun t142 => (some t142)) else (some false)) = some r := H
            have A24 := Aside0.mk A240
            clear A240
            by_cases c25 : t140 = t141
            · rw [if_pos c25] at H
              have c25b0 : (t140 == t141) = true := beq_iff_eq.mpr c25
              have c25b1 : (t140 != t141) = false := bne_eq_false_iff_eq.mpr c25
              clear c25
              replace H := Option.bind_eq_some_iff.mp H
              obtain ⟨t142, A260, H⟩ := H
              replace H : (some t142) = some r := H
              have A26 := Aside0.mk A260
              clear A260
              obtain rfl := Option.some.inj H
              go_wp2_with (first | ((with_reducible refine gate_callee (f := 14) rfl ?_); refine goesL_ (some 35) rfl rfl Try.func14 (by kernel_rfl) rfl #[.int .u32 a0, .int .u32 a1] rfl (by (try simp only [List.map_toArray, List.map_cons, List.map_nil]); first | done | rfl | (simp only [List.length_drop, List.length_take]; rfl)) ?_; (with_reducible refine (seqn_Gap.calls a0 a1 t134 _ A13.out).mono ?_); rintro e w' ⟨rfl, ⟨nd, rfl⟩⟩; refine ⟨_, rfl, ?_⟩) | ((with_reducible refine gate_callee (f := 18) rfl ?_); refine goesL_ (some 52) rfl rfl Try.func18 (by kernel_rfl) rfl #[.int .u32 a0, .int .u32 a1] rfl (by (try simp only [List.map_toArray, List.map_cons, List.map_nil]); first | done | rfl | (simp only [List.length_drop, List.length_take]; rfl)) ?_; (with_reducible refine (seqn_Upto.calls a0 a1 t138 _ A20.out).mono ?_); rintro e w' ⟨rfl, ⟨nd, rfl⟩⟩; refine ⟨_, rfl, ?_⟩) | ((with_reducible refine gate_callee (f := 16) rfl ?_); refine goesL_ (some 55) rfl rfl Try.func16 (by kernel_rfl) rfl #[.int .u32 a1, .int .u32 a0] rfl (by (try simp only [List.map_toArray, List.map_cons, List.map_nil]); first | done | rfl | (simp only [List.length_drop, List.length_take]; rfl)) ?_; (with_reducible refine (seqn_Before.calls a1 a0 t139 _ A21.out).mono ?_); rintro e w' ⟨rfl, ⟨nd, rfl⟩⟩; refine ⟨_, rfl, ?_⟩) | (go_at_call 20; (with_reducible refine (seqn_Later.calls a0 a1 t140 _ A23.out).mono ?_); rintro e w' ⟨rfl, ⟨nd, rfl⟩⟩) | (go_at_call 20; (with_reducible refine (seqn_Later.calls a1 a0 t141 _ A24.out).mono ?_); rintro e w' ⟨rfl, ⟨nd, rfl⟩⟩) | (go_at_call 28; (with_reducible refine (rampartlaw03_known.calls  t142 _ A26.out).mono ?_); rintro e w' ⟨rfl, ⟨nd, rfl⟩⟩))
              go_ret
              exact ⟨by first | rfl | (simp; done) | (simp [*]; done), by repeat (first | exact Drawn0.refl _ | apply Drawn0.step)⟩
            · rw [if_neg c25] at H
              have c25b0 : (t140 == t141) = false := beq_eq_false_iff_ne.mpr c25
              have c25b1 : (t140 != t141) = true := bne_iff_ne.mpr c25
              obtain rfl := Option.some.inj H
              go_wp2_with (first | ((with_reducible refine gate_callee (f := 14) rfl ?_); refine goesL_ (some 35) rfl rfl Try.func14 (by kernel_rfl) rfl #[.int .u32 a0, .int .u32 a1] rfl (by (try simp only [List.map_toArray, List.map_cons, List.map_nil]); first | done | rfl | (simp only [List.length_drop, List.length_take]; rfl)) ?_; (with_reducible refine (seqn_Gap.calls a0 a1 t134 _ A13.out).mono ?_); rintro e w' ⟨rfl, ⟨nd, rfl⟩⟩; refine ⟨_, rfl, ?_⟩) | ((with_reducible refine gate_callee (f := 18) rfl ?_); refine goesL_ (some 52) rfl rfl Try.func18 (by kernel_rfl) rfl #[.int .u32 a0, .int .u32 a1] rfl (by (try simp only [List.map_toArray, List.map_cons, List.map_nil]); first | done | rfl | (simp only [List.length_drop, List.length_take]; rfl)) ?_; (with_reducible refine (seqn_Upto.calls a0 a1 t138 _ A20.out).mono ?_); rintro e w' ⟨rfl, ⟨nd, rfl⟩⟩; refine ⟨_, rfl, ?_⟩) | ((with_reducible refine gate_callee (f := 16) rfl ?_); refine goesL_ (some 55) rfl rfl Try.func16 (by kernel_rfl) rfl #[.int .u32 a1, .int .u32 a0] rfl (by (try simp only [List.map_toArray, List.map_cons, List.map_nil]); first | done | rfl | (simp only [List.length_drop, List.length_take]; rfl)) ?_; (with_reducible refine (seqn_Before.calls a1 a0 t139 _ A21.out).mono ?_); rintro e w' ⟨rfl, ⟨nd, rfl⟩⟩; refine ⟨_, rfl, ?_⟩) | (go_at_call 20; (with_reducible refine (seqn_Later.calls a0 a1 t140 _ A23.out).mono ?_); rintro e w' ⟨rfl, ⟨nd, rfl⟩⟩) | (go_at_call 20; (with_reducible refine (seqn_Later.calls a1 a0 t141 _ A24.out).mono ?_); rintro e w' ⟨rfl, ⟨nd, rfl⟩⟩))
              go_ret
              exact ⟨by first | rfl | (simp; done) | (simp [*]; done), by repeat (first | exact Drawn0.refl _ | apply Drawn0.step)⟩
          · rw [if_neg c22] at H
            have c22b0 : (t138 == (!t139)) = false := by simpa using c22
            (try (have c22b1 : decide (t138 = (!t139)) = false := by simpa using c22))
            (try (have c22b2 : (t138 == (!t139)) = false := by simpa using c22))
            (try (have c22b3 : ¬ (t138 = (!t139)) := by simpa using c22))
            clear c22
            obtain rfl := Option.some.inj H
            go_wp2_with (first | ((with_reducible refine gate_callee (f := 14) rfl ?_); refine goesL_ (some 35) rfl rfl Try.func14 (by kernel_rfl) rfl #[.int .u32 a0, .int .u32 a1] rfl (by (try simp only [List.map_toArray, List.map_cons, List.map_nil]); first | done | rfl | (simp only [List.length_drop, List.length_take]; rfl)) ?_; (with_reducible refine (seqn_Gap.calls a0 a1 t134 _ A13.out).mono ?_); rintro e w' ⟨rfl, ⟨nd, rfl⟩⟩; refine ⟨_, rfl, ?_⟩) | ((with_reducible refine gate_callee (f := 18) rfl ?_); refine goesL_ (some 52) rfl rfl Try.func18 (by kernel_rfl) rfl #[.int .u32 a0, .int .u32 a1] rfl (by (try simp only [List.map_toArray, List.map_cons, List.map_nil]); first | done | rfl | (simp only [List.length_drop, List.length_take]; rfl)) ?_; (with_reducible refine (seqn_Upto.calls a0 a1 t138 _ A20.out).mono ?_); rintro e w' ⟨rfl, ⟨nd, rfl⟩⟩; refine ⟨_, rfl, ?_⟩) | ((with_reducible refine gate_callee (f := 16) rfl ?_); refine goesL_ (some 55) rfl rfl Try.func16 (by kernel_rfl) rfl #[.int .u32 a1, .int .u32 a0] rfl (by (try simp only [List.map_toArray, List.map_cons, List.map_nil]); first | done | rfl | (simp only [List.length_drop, List.length_take]; rfl)) ?_; (with_reducible refine (seqn_Before.calls a1 a0 t139 _ A21.out).mono ?_); rintro e w' ⟨rfl, ⟨nd, rfl⟩⟩; refine ⟨_, rfl, ?_⟩))
            go_ret
            exact ⟨by first | rfl | (simp; done) | (simp [*]; done), by repeat (first | exact Drawn0.refl _ | apply Drawn0.step)⟩

/-- THE ONE PURE STATEMENT of rampartlaw03_SeqnOrder: yours. -/
def rampartlaw03_SeqnOrder.Pure : Prop := ∀ (a0 : Int) (a1 : Int) (a2 : Int), (Lit.int .u32 a0).wf = true → (Lit.int .u32 a1).wf = true → (Lit.int .i32 a2).wf = true → ∃ k, rampartlaw03_SeqnOrder.f k a0 a1 a2 = some true
theorem rampartlaw03_SeqnOrder.walk (P : rampartlaw03_SeqnOrder.Pure) (a0 : Int) (a1 : Int) (a2 : Int) (w : World) (w0 : (Lit.int .u32 a0).wf = true) (w1 : (Lit.int .u32 a1).wf = true) (w2 : (Lit.int .i32 a2).wf = true) :
    Calls Try.prog 5 #[.int .u32 a0, .int .u32 a1, .int .i32 a2] w fun e w' => e = .returned (.bool true) ∧ Below w.heap.size w w' := by
  obtain ⟨k, h⟩ := P a0 a1 a2 w0 w1 w2
  refine (rampartlaw03_SeqnOrder.calls k a0 a1 a2 true w h).mono ?_
  rintro e w' ⟨rfl, hd⟩
  exact ⟨rfl, hd.below⟩

end Go.Proofs.Ytbmekfammbfadaa.PAll
