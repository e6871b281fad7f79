-- Written by a program of this work (wip/mkprint.py, wip/myprint.sh) out of the translation; not trusted: Lean checks it.
import Derived.Test.YtbmekfammbfadaaPAllx0
import Derived.Test.YtbmekfammbfadaaPAllx1
namespace Go.Proofs.Ytbmekfammbfadaa.PAll
open Go.RowKit Go.Proofs.YtbmekfammbfadaaW.PrintWords Go.Proofs.YtbmekfammbfadaaW.PrintLast Go.Proofs.YtbmekfammbfadaaW.PrintMore
attribute [local go_sem] max2_int min2_int max_two min_two max_three min_three max_four min_four   -- for this text's walks alone
set_option linter.unusedVariables false
set_option linter.unusedSimpArgs false

/-! ### seqn_Step: function 26 -/
def seqn_Step.f (a0 : Int) (a1 : Int) : Option (Int) := some ((a0 + ((a1) % 4294967296)) % 4294967296)
set_option maxHeartbeats 8000000 in
set_option maxRecDepth 100000 in
theorem seqn_Step.calls (a0 : Int) (a1 : Int) (r : Int) (w : World) (h : seqn_Step.f a0 a1 = some r) :
    Calls Try.prog 26 #[.int .u32 a0, .int .i64 a1] w fun e w' => e = .returned (.int .u32 r) ∧ Drawn0 w w' := by
  have H : (some ((a0 + ((a1) % 4294967296)) % 4294967296)) = some r := h
  clear h
  obtain rfl := Option.some.inj H
  go_enter Try.func26, Try.ntmps26
  go_wp2
  go_ret
  exact ⟨by first | rfl | (simp; done) | (simp [*]; done), by repeat (first | exact Drawn0.refl _ | apply Drawn0.step)⟩

/-! ### rampartref03_Step: function 27 -/
def rampartref03_Step.f (a0 : Int) (a1 : Int) : Option (Int) := (rampartref03_Mod.f a1).bind fun t111 => ((rampartref03_Mod.f (wrap64 ((wrap64 (a0)) + t111))).bind fun t112 => (some ((t112) % 4294967296)))
set_option maxHeartbeats 8000000 in
set_option maxRecDepth 100000 in
theorem rampartref03_Step.calls (a0 : Int) (a1 : Int) (r : Int) (w : World) (h : rampartref03_Step.f a0 a1 = some r) :
    Calls Try.prog 27 #[.int .u32 a0, .int .i64 a1] w fun e w' => e = .returned (.int .u32 r) ∧ Drawn0 w w' := by
  have H : ((rampartref03_Mod.f a1).bind fun t111 => ((rampartref03_Mod.f (wrap64 ((wrap64 (a0)) + t111))).bind fun t112 => (some ((t112) % 4294967296)))) = some r := h
  clear h
  replace H := Option.bind_eq_some_iff.mp H
  obtain ⟨t111, A30, H⟩ := H
  replace H : ((rampartref03_Mod.f (wrap64 ((wrap64 (a0)) + t111))).bind fun t112 => (some ((t112) % 4294967296))) = some r := H
  have A3 := Aside0.mk A30
  clear A30
  replace H := Option.bind_eq_some_iff.mp H
  obtain ⟨t112, A40, H⟩ := H
  replace H : (some ((t112) % 4294967296)) = some r := H
  have A4 := Aside0.mk A40
  clear A40
  obtain rfl := Option.some.inj H
  go_enter Try.func27, Try.ntmps27
  go_wp2_with (first | ((with_reducible refine gate_callee (f := 42) rfl ?_); refine goesL_ (some 8) rfl rfl Try.func42 (by kernel_rfl) rfl #[.int .i64 a1] rfl (by (try simp only [List.map_toArray, List.map_cons, List.map_nil]); first | done | rfl | (simp only [List.length_drop, List.length_take]; rfl)) ?_; (with_reducible refine (rampartref03_Mod.calls a1 t111 _ A3.out).mono ?_); rintro e w' ⟨rfl, ⟨nd, rfl⟩⟩; refine ⟨_, rfl, ?_⟩) | ((with_reducible refine gate_callee (f := 42) rfl ?_); refine goesL_ (some 10) rfl rfl Try.func42 (by kernel_rfl) rfl #[.int .i64 (wrap64 ((wrap64 (a0)) + t111))] rfl (by (try simp only [List.map_toArray, List.map_cons, List.map_nil]); first | done | rfl | (simp only [List.length_drop, List.length_take]; rfl)) ?_; (with_reducible refine (rampartref03_Mod.calls (wrap64 ((wrap64 (a0)) + t111)) t112 _ A4.out).mono ?_); rintro e w' ⟨rfl, ⟨nd, rfl⟩⟩; refine ⟨_, rfl, ?_⟩))
  go_ret
  exact ⟨by first | rfl | (simp; done) | (simp [*]; done), by repeat (first | exact Drawn0.refl _ | apply Drawn0.step)⟩

/-! ### rampartlaw03_known: function 28 -/
def rampartlaw03_known.f  : Option (Bool) := (seqn_Gap.f 4294967295 1).bind fun t113 => (if t113 = 2 then ((seqn_Gap.f 0 2147483648).bind fun t114 => (if t114 = (-2147483648) then ((seqn_Near.f 5000000000 705032704).bind fun t115 => (if t115 = 5000000000 then ((seqn_Before.f 1 2).bind fun t116 => (if t116 = true then ((seqn_Before.f 2 2).bind fun t117 => (if t117 = true then (some false) else ((seqn_Upto.f 2 2).bind fun t118 => (if t118 = true then ((seqn_Later.f 4294967295 1).bind fun t119 => (if t119 = 1 then ((seqn_Within.f 1 4294967295 3).bind fun t120 => (if t120 = true then ((seqn_Within.f 2 4294967295 3).bind fun t121 => (if t121 = true then (some false) else ((seqn_Step.f 1 (-2)).bind fun t122 => (some (t122 == 4294967295))))) else (some false))) else (some false))) else (some false))))) else (some false))) else (some false))) else (some false))) else (some false))
set_option maxHeartbeats 8000000 in
set_option maxRecDepth 100000 in
theorem rampartlaw03_known.calls  (r : Bool) (w : World) (h : rampartlaw03_known.f  = some r) :
    Calls Try.prog 28 #[] w fun e w' => e = .returned (.bool r) ∧ Drawn0 w w' := by
  have H : ((seqn_Gap.f 4294967295 1).bind fun t113 => (if t113 = 2 then ((seqn_Gap.f 0 2147483648).bind fun t114 => (if t114 = (-2147483648) then ((seqn_Near.f 5000000000 705032704).bind fun t115 => (if t115 = 5000000000 then ((seqn_Before.f 1 2).bind fun t116 => (if t116 = true then ((seqn_Before.f 2 2).bind fun t117 => (if t117 = true then (some false) else ((seqn_Upto.f 2 2).bind fun t118 => (if t118 = true then ((seqn_Later.f 4294967295 1).bind fun t119 => (if t119 = 1 then ((seqn_Within.f 1 4294967295 3).bind fun t120 => (if t120 = true then ((seqn_Within.f 2 4294967295 3).bind fun t121 => (if t121 = true then (some false) else ((seqn_Step.f 1 (-2)).bind fun t122 => (some (t122 == 4294967295))))) else (some false))) else (some false))) else (some false))))) else (some false))) else (some false))) else (some false))) else (some false))) = some r := h
  clear h
  replace H := Option.bind_eq_some_iff.mp H
  obtain ⟨t113, A10, H⟩ := H
  replace H : (if t113 = 2 then ((seqn_Gap.f 0 2147483648).bind fun t114 => (if t114 = (-2147483648) then ((seqn_Near.f 5000000000 705032704).bind fun t115 => (if t115 = 5000000000 then ((seqn_Before.f 1 2).bind fun t116 => (if t116 = true then ((seqn_Before.f 2 2).bind fun t117 => (if t117 = true then (some false) else ((seqn_Upto.f 2 2).bind fun t118 => (if t118 = true then ((seqn_Later.f 4294967295 1).bind fun t119 => (if t119 = 1 then ((seqn_Within.f 1 4294967295 3).bind fun t120 => (if t120 = true then ((seqn_Within.f 2 4294967295 3).bind fun t121 => (if t121 = true then (some false) else ((seqn_Step.f 1 (-2)).bind fun t122 => (some (t122 == 4294967295))))) else (some false))) else (some false))) else (some false))))) else (some false))) else (some false))) else (some false))) else (some false)) = some r := H
  have A1 := Aside0.mk A10
  clear A10
  by_cases c2 : t113 = 2
  · rw [if_pos c2] at H
    have c2b0 : (t113 == 2) = true := beq_iff_eq.mpr c2
    have c2b1 : (t113 != 2) = false := bne_eq_false_iff_eq.mpr c2
    clear c2
    replace H := Option.bind_eq_some_iff.mp H
    obtain ⟨t114, A30, H⟩ := H
    replace H : (if t114 = (-2147483648) then ((seqn_Near.f 5000000000 705032704).bind fun t115 => (if t115 = 5000000000 then ((seqn_Before.f 1 2).bind fun t116 => (if t116 = true then ((seqn_Before.f 2 2).bind fun t117 => (if t117 = true then (some false) else ((seqn_Upto.f 2 2).bind fun t118 => (if t118 = true then ((seqn_Later.f 4294967295 1).bind fun t119 => (if t119 = 1 then ((seqn_Within.f 1 4294967295 3).bind fun t120 => (if t120 = true then ((seqn_Within.f 2 4294967295 3).bind fun t121 => (if t121 = true then (some false) else ((seqn_Step.f 1 (-2)).bind fun t122 => (some (t122 == 4294967295))))) else (some false))) else (some false))) else (some false))))) else (some false))) else (some false))) else (some false)) = some r := H
    have A3 := Aside0.mk A30
    clear A30
    by_cases c4 : t114 = (-2147483648)
    · rw [if_pos c4] at H
      have c4b0 : (t114 == (-2147483648)) = true := beq_iff_eq.mpr c4
      have c4b1 : (t114 != (-2147483648)) = false := bne_eq_false_iff_eq.mpr c4
      clear c4
      replace H := Option.bind_eq_some_iff.mp H
      obtain ⟨t115, A50, H⟩ := H
      replace H : (if t115 = 5000000000 then ((seqn_Before.f 1 2).bind fun t116 => (if t116 = true then ((seqn_Before.f 2 2).bind fun t117 => (if t117 = true then (some false) else ((seqn_Upto.f 2 2).bind fun t118 => (if t118 = true then ((seqn_Later.f 4294967295 1).bind fun t119 => (if t119 = 1 then ((seqn_Within.f 1 4294967295 3).bind fun t120 => (if t120 = true then ((seqn_Within.f 2 4294967295 3).bind fun t121 => (if t121 = true then (some false) else ((seqn_Step.f 1 (-2)).bind fun t122 => (some (t122 == 4294967295))))) else (some false))) else (some false))) else (some false))))) else (some false))) else (some false)) = some r := H
      have A5 := Aside0.mk A50
      clear A50
      by_cases c6 : t115 = 5000000000
      · rw [if_pos c6] at H
        have c6b0 : (t115 == 5000000000) = true := beq_iff_eq.mpr c6
        have c6b1 : (t115 != 5000000000) = false := bne_eq_false_iff_eq.mpr c6
        clear c6
        replace H := Option.bind_eq_some_iff.mp H
        obtain ⟨t116, A70, H⟩ := H
        replace H : (if t116 = true then ((seqn_Before.f 2 2).bind fun t117 => (if t117 = true then (some false) else ((seqn_Upto.f 2 2).bind fun t118 => (if t118 = true then ((seqn_Later.f 4294967295 1).bind fun t119 => (if t119 = 1 then ((seqn_Within.f 1 4294967295 3).bind fun t120 => (if t120 = true then ((seqn_Within.f 2 4294967295 3).bind fun t121 => (if t121 = true then (some false) else ((seqn_Step.f 1 (-2)).bind fun t122 => (some (t122 == 4294967295))))) else (some false))) else (some false))) else (some false))))) else (some false)) = some r := H
        have A7 := Aside0.mk A70
        clear A70
        by_cases c8 : t116 = true
        · subst c8
          have H1 : ((seqn_Before.f 2 2).bind fun t117 => (if t117 = true then (some false) else ((seqn_Upto.f 2 2).bind fun t118 => (if t118 = true then ((seqn_Later.f 4294967295 1).bind fun t119 => (if t119 = 1 then ((seqn_Within.f 1 4294967295 3).bind fun t120 => (if t120 = true then ((seqn_Within.f 2 4294967295 3).bind fun t121 => (if t121 = true then (some false) else ((seqn_Step.f 1 (-2)).bind fun t122 => (some (t122 == 4294967295))))) else (some false))) else (some false))) else (some false))))) = some r := by rw [if_pos rfl] at H; exact H
          clear H
          have H := H1
          clear H1
          replace H := Option.bind_eq_some_iff.mp H
          obtain ⟨t117, A90, H⟩ := H
          replace H : (if t117 = true then (some false) else ((seqn_Upto.f 2 2).bind fun t118 => (if t118 = true then ((seqn_Later.f 4294967295 1).bind fun t119 => (if t119 = 1 then ((seqn_Within.f 1 4294967295 3).bind fun t120 => (if t120 = true then ((seqn_Within.f 2 4294967295 3).bind fun t121 => (if t121 = true then (some false) else ((seqn_Step.f 1 (-2)).bind fun t122 => (some (t122 == 4294967295))))) else (some false))) else (some false))) else (some false)))) = some r := H
          have A9 := Aside0.mk A90
          clear A90
          by_cases c10 : t117 = true
          · subst c10
            have H1 : (some false) = some r := by rw [if_pos rfl] at H; exact H
            clear H
            have H := H1
            clear H1
            obtain rfl := Option.some.inj H
            go_enter Try.func28, Try.ntmps28
            go_wp2_with (first | ((with_reducible refine gate_callee (f := 14) rfl ?_); refine goesL_ (some 1) rfl rfl Try.func14 (by kernel_rfl) rfl #[.int .u32 4294967295, .int .u32 1] rfl (by (try simp only [List.map_toArray, List.map_cons, List.map_nil]); first | done | rfl | (simp only [List.length_drop, List.length_take]; rfl)) ?_; (with_reducible refine (seqn_Gap.calls 4294967295 1 t113 _ A1.out).mono ?_); rintro e w' ⟨rfl, ⟨nd, rfl⟩⟩; refine ⟨_, rfl, ?_⟩) | (go_at_call 14; (with_reducible refine (seqn_Gap.calls 0 2147483648 t114 _ A3.out).mono ?_); rintro e w' ⟨rfl, ⟨nd, rfl⟩⟩) | (go_at_call 24; (with_reducible refine (seqn_Near.calls 5000000000 705032704 t115 _ A5.out).mono ?_); rintro e w' ⟨rfl, ⟨nd, rfl⟩⟩) | (go_at_call 16; (with_reducible refine (seqn_Before.calls 1 2 true _ A7.out).mono ?_); rintro e w' ⟨rfl, ⟨nd, rfl⟩⟩) | (go_at_call 16; (with_reducible refine (seqn_Before.calls 2 2 true _ A9.out).mono ?_); rintro e w' ⟨rfl, ⟨nd, rfl⟩⟩))
            go_ret
            exact ⟨by first | rfl | (simp; done) | (simp [*]; done), by repeat (first | exact Drawn0.refl _ | apply Drawn0.step)⟩
          · replace c10 := Bool.eq_false_iff.mpr c10
            subst c10
            have H1 : ((seqn_Upto.f 2 2).bind fun t118 => (if t118 = true then ((seqn_Later.f 4294967295 1).bind fun t119 => (if t119 = 1 then ((seqn_Within.f 1 4294967295 3).bind fun t120 => (if t120 = true then ((seqn_Within.f 2 4294967295 3).bind fun t121 => (if t121 = true then (some false) else ((seqn_Step.f 1 (-2)).bind fun t122 => (some (t122 == 4294967295))))) else (some false))) else (some false))) else (some false))) = some r := by rw [if_neg (show ¬ (false = true) by decide)] at H; exact H
            clear H
            have H := H1
            clear H1
            replace H := Option.bind_eq_some_iff.mp H
            obtain ⟨t118, A110, H⟩ := H
            replace H : (if t118 = true then ((seqn_Later.f 4294967295 1).bind fun t119 => (if t119 = 1 then ((seqn_Within.f 1 4294967295 3).bind fun t120 => (if t120 = true then ((seqn_Within.f 2 4294967295 3).bind fun t121 => (if t121 = true then (some false) else ((seqn_Step.f 1 (-2)).bind fun t122 => (some (t122 == 4294967295))))) else (some false))) else (some false))) else (some false)) = some r := H
            have A11 := Aside0.mk A110
            clear A110
            by_cases c12 : t118 = true
            · subst c12
              have H1 : ((seqn_Later.f 4294967295 1).bind fun t119 => (if t119 = 1 then ((seqn_Within.f 1 4294967295 3).bind fun t120 => (if t120 = true then ((seqn_Within.f 2 4294967295 3).bind fun t121 => (if t121 = true then (some false) else ((seqn_Step.f 1 (-2)).bind fun t122 => (some (t122 == 4294967295))))) else (some false))) else (some false))) = some r := by rw [if_pos rfl] at H; exact H
              clear H
              have H := H1
              clear H1
              replace H := Option.bind_eq_some_iff.mp H
              obtain ⟨t119, A130, H⟩ := H
              replace H : (if t119 = 1 then ((seqn_Within.f 1 4294967295 3).bind fun t120 => (if t120 = true then ((seqn_Within.f 2 4294967295 3).bind fun t121 => (if t121 = true then (some false) else ((seqn_Step.f 1 (-2)).bind fun t122 => (some (t122 == 4294967295))))) else (some false))) else (some false)) = some r := H
              have A13 := Aside0.mk A130
              clear A130
              by_cases c14 : t119 = 1
              · rw [if_pos c14] at H
                have c14b0 : (t119 == 1) = true := beq_iff_eq.mpr c14
                have c14b1 : (t119 != 1) = false := bne_eq_false_iff_eq.mpr c14
                clear c14
                replace H := Option.bind_eq_some_iff.mp H
                obtain ⟨t120, A150, H⟩ := H
                replace H : (if t120 = true then ((seqn_Within.f 2 4294967295 3).bind fun t121 => (if t121 = true then (some false) else ((seqn_Step.f 1 (-2)).bind fun t122 => (some (t122 == 4294967295))))) else (some false)) = some r := H
                have A15 := Aside0.mk A150
                clear A150
                by_cases c16 : t120 = true
                · subst c16
                  have H1 : ((seqn_Within.f 2 4294967295 3).bind fun t121 => (if t121 = true then (some false) else ((seqn_Step.f 1 (-2)).bind fun t122 => (some (t122 == 4294967295))))) = some r := by rw [if_pos rfl] at H; exact H
                  clear H
                  have H := H1
                  clear H1
                  replace H := Option.bind_eq_some_iff.mp H
                  obtain ⟨t121, A170, H⟩ := H
                  replace H : (if t121 = true then (some false) else ((seqn_Step.f 1 (-2)).bind fun t122 => (some (t122 == 4294967295)))) = some r := H
                  have A17 := Aside0.mk A170
                  clear A170
                  by_cases c18 : t121 = true
                  · subst c18
                    have H1 : (some false) = some r := by rw [if_pos rfl] at H; exact H
                    clear H
                    have H := H1
                    clear H1
                    obtain rfl := Option.some.inj H
                    go_enter Try.func28, Try.ntmps28
                    go_wp2_with (first | ((with_reducible refine gate_callee (f := 14) rfl ?_); refine goesL_ (some 1) rfl rfl Try.func14 (by kernel_rfl) rfl #[.int .u32 4294967295, .int .u32 1] rfl (by (try simp only [List.map_toArray, List.map_cons, List.map_nil]); first | done | rfl | (simp only [List.length_drop, List.length_take]; rfl)) ?_; (with_reducible refine (seqn_Gap.calls 4294967295 1 t113 _ A1.out).mono ?_); rintro e w' ⟨rfl, ⟨nd, rfl⟩⟩; refine ⟨_, rfl, ?_⟩) | (go_at_call 14; (with_reducible refine (seqn_Gap.calls 0 2147483648 t114 _ A3.out).mono ?_); rintro e w' ⟨rfl, ⟨nd, rfl⟩⟩) | (go_at_call 24; (with_reducible refine (seqn_Near.calls 5000000000 705032704 t115 _ A5.out).mono ?_); rintro e w' ⟨rfl, ⟨nd, rfl⟩⟩) | (go_at_call 16; (with_reducible refine (seqn_Before.calls 1 2 true _ A7.out).mono ?_); rintro e w' ⟨rfl, ⟨nd, rfl⟩⟩) | (go_at_call 16; (with_reducible refine (seqn_Before.calls 2 2 false _ A9.out).mono ?_); rintro e w' ⟨rfl, ⟨nd, rfl⟩⟩) | (go_at_call 18; (with_reducible refine (seqn_Upto.calls 2 2 true _ A11.out).mono ?_); rintro e w' ⟨rfl, ⟨nd, rfl⟩⟩) | (go_at_call 20; (with_reducible refine (seqn_Later.calls 4294967295 1 t119 _ A13.out).mono ?_); rintro e w' ⟨rfl, ⟨nd, rfl⟩⟩) | (go_at_call 22; (with_reducible refine (seqn_Within.calls 1 4294967295 3 true _ A15.out).mono ?_); rintro e w' ⟨rfl, ⟨nd, rfl⟩⟩) | (go_at_call 22; (with_reducible refine (seqn_Within.calls 2 4294967295 3 true _ A17.out).mono ?_); rintro e w' ⟨rfl, ⟨nd, rfl⟩⟩))
                    go_ret
                    exact ⟨by first | rfl | (simp; done) | (simp [*]; done), by repeat (first | exact Drawn0.refl _ | apply Drawn0.step)⟩
                  · replace c18 := Bool.eq_false_iff.mpr c18
                    subst c18
                    have H1 : ((seqn_Step.f 1 (-2)).bind fun t122 => (some (t122 == 4294967295))) = some r := by rw [if_neg (show ¬ (false = true) by decide)] at H; exact H
                    clear H
                    have H := H1
                    clear H1
                    replace H := Option.bind_eq_some_iff.mp H
                    obtain ⟨t122, A190, H⟩ := H
                    replace H : (some (t122 == 4294967295)) = some r := H
                    have A19 := Aside0.mk A190
                    clear A190
                    obtain rfl := Option.some.inj H
                    go_enter Try.func28, Try.ntmps28
                    go_wp2_with (first | ((with_reducible refine gate_callee (f := 14) rfl ?_); refine goesL_ (some 1) rfl rfl Try.func14 (by kernel_rfl) rfl #[.int .u32 4294967295, .int .u32 1] rfl (by (try simp only [List.map_toArray, List.map_cons, List.map_nil]); first | done | rfl | (simp only [List.length_drop, List.length_take]; rfl)) ?_; (with_reducible refine (seqn_Gap.calls 4294967295 1 t113 _ A1.out).mono ?_); rintro e w' ⟨rfl, ⟨nd, rfl⟩⟩; refine ⟨_, rfl, ?_⟩) | (go_at_call 14; (with_reducible refine (seqn_Gap.calls 0 2147483648 t114 _ A3.out).mono ?_); rintro e w' ⟨rfl, ⟨nd, rfl⟩⟩) | (go_at_call 24; (with_reducible refine (seqn_Near.calls 5000000000 705032704 t115 _ A5.out).mono ?_); rintro e w' ⟨rfl, ⟨nd, rfl⟩⟩) | (go_at_call 16; (with_reducible refine (seqn_Before.calls 1 2 true _ A7.out).mono ?_); rintro e w' ⟨rfl, ⟨nd, rfl⟩⟩) | (go_at_call 16; (with_reducible refine (seqn_Before.calls 2 2 false _ A9.out).mono ?_); rintro e w' ⟨rfl, ⟨nd, rfl⟩⟩) | (go_at_call 18; (with_reducible refine (seqn_Upto.calls 2 2 true _ A11.out).mono ?_); rintro e w' ⟨rfl, ⟨nd, rfl⟩⟩) | (go_at_call 20; (with_reducible refine (seqn_Later.calls 4294967295 1 t119 _ A13.out).mono ?_); rintro e w' ⟨rfl, ⟨nd, rfl⟩⟩) | (go_at_call 22; (with_reducible refine (seqn_Within.calls 1 4294967295 3 true _ A15.out).mono ?_); rintro e w' ⟨rfl, ⟨nd, rfl⟩⟩) | (go_at_call 22; (with_reducible refine (seqn_Within.calls 2 4294967295 3 false _ A17.out).mono ?_); rintro e w' ⟨rfl, ⟨nd, rfl⟩⟩) | (go_at_call 26; (with_reducible refine (seqn_Step.calls 1 (-2) t122 _ A19.out).mono ?_); rintro e w' ⟨rfl, ⟨nd, rfl⟩⟩))
                    go_ret
                    exact ⟨by first | rfl | (simp; done) | (simp [*]; done), by repeat (first | exact Drawn0.refl _ | apply Drawn0.step)⟩
                · replace c16 := Bool.eq_false_iff.mpr c16
                  subst c16
                  have H1 : (some false) = some r := by rw [if_neg (show ¬ (false = true) by decide)] at H; exact H
                  clear H
                  have H := H1
                  clear H1
                  obtain rfl := Option.some.inj H
                  go_enter Try.func28, Try.ntmps28
                  go_wp2_with (first | ((with_reducible refine gate_callee (f := 14) rfl ?_); refine goesL_ (some 1) rfl rfl Try.func14 (by kernel_rfl) rfl #[.int .u32 4294967295, .int .u32 1] rfl (by (try simp only [List.map_toArray, List.map_cons, List.map_nil]); first | done | rfl | (simp only [List.length_drop, List.length_take]; rfl)) ?_; (with_reducible refine (seqn_Gap.calls 4294967295 1 t113 _ A1.out).mono ?_); rintro e w' ⟨rfl, ⟨nd, rfl⟩⟩; refine ⟨_, rfl, ?_⟩) | (go_at_call 14; (with_reducible refine (seqn_Gap.calls 0 2147483648 t114 _ A3.out).mono ?_); rintro e w' ⟨rfl, ⟨nd, rfl⟩⟩) | (go_at_call 24; (with_reducible refine (seqn_Near.calls 5000000000 705032704 t115 _ A5.out).mono ?_); rintro e w' ⟨rfl, ⟨nd, rfl⟩⟩) | (go_at_call 16; (with_reducible refine (seqn_Before.calls 1 2 true _ A7.out).mono ?_); rintro e w' ⟨rfl, ⟨nd, rfl⟩⟩) | (go_at_call 16; (with_reducible refine (seqn_Before.calls 2 2 false _ A9.out).mono ?_); rintro e w' ⟨rfl, ⟨nd, rfl⟩⟩) | (go_at_call 18; (with_reducible refine (seqn_Upto.calls 2 2 true _ A11.out).mono ?_); rintro e w' ⟨rfl, ⟨nd, rfl⟩⟩) | (go_at_call 20; (with_reducible refine (seqn_Later.calls 4294967295 1 t119 _ A13.out).mono ?_); rintro e w' ⟨rfl, ⟨nd, rfl⟩⟩) | (go_at_call 22; (with_reducible refine (seqn_Within.calls 1 4294967295 3 false _ A15.out).mono ?_); rintro e w' ⟨rfl, ⟨nd, rfl⟩⟩))
                  go_ret
                  exact ⟨by first | rfl | (simp; done) | (simp [*]; done), by repeat (first | exact Drawn0.refl _ | apply Drawn0.step)⟩
              · rw [if_neg c14] at H
                have c14b0 : (t119 == 1) = false := beq_eq_false_iff_ne.mpr c14
                have c14b1 : (t119 != 1) = true := bne_iff_ne.mpr c14
                obtain rfl := Option.some.inj H
                go_enter Try.func28, Try.ntmps28
                go_wp2_with (first | ((with_reducible refine gate_callee (f := 14) rfl ?_); refine goesL_ (some 1) rfl rfl Try.func14 (by kernel_rfl) rfl #[.int .u32 4294967295, .int .u32 1] rfl (by (try simp only [List.map_toArray, List.map_cons, List.map_nil]); first | done | rfl | (simp only [List.length_drop, List.length_take]; rfl)) ?_; (with_reducible refine (seqn_Gap.calls 4294967295 1 t113 _ A1.out).mono ?_); rintro e w' ⟨rfl, ⟨nd, rfl⟩⟩; refine ⟨_, rfl, ?_⟩) | (go_at_call 14; (with_reducible refine (seqn_Gap.calls 0 2147483648 t114 _ A3.out).mono ?_); rintro e w' ⟨rfl, ⟨nd, rfl⟩⟩) | (go_at_call 24; (with_reducible refine (seqn_Near.calls 5000000000 705032704 t115 _ A5.out).mono ?_); rintro e w' ⟨rfl, ⟨nd, rfl⟩⟩) | (go_at_call 16; (with_reducible refine (seqn_Before.calls 1 2 true _ A7.out).mono ?_); rintro e w' ⟨rfl, ⟨nd, rfl⟩⟩) | (go_at_call 16; (with_reducible refine (seqn_Before.calls 2 2 false _ A9.out).mono ?_); rintro e w' ⟨rfl, ⟨nd, rfl⟩⟩) | (go_at_call 18; (with_reducible refine (seqn_Upto.calls 2 2 true _ A11.out).mono ?_); rintro e w' ⟨rfl, ⟨nd, rfl⟩⟩) | (go_at_call 20; (with_reducible refine (seqn_Later.calls 4294967295 1 t119 _ A13.out).mono ?_); rintro e w' ⟨rfl, ⟨nd, rfl⟩⟩))
                go_ret
                exact ⟨by first | rfl | (simp; done) | (simp [*]; done), by repeat (first | exact Drawn0.refl _ | apply Drawn0.step)⟩
            · replace c12 := Bool.eq_false_iff.mpr c12
              subst c12
              have H1 : (some false) = some r := by rw [if_neg (show ¬ (false = true) by decide)] at H; exact H
              clear H
              have H := H1
              clear H1
              obtain rfl := Option.some.inj H
              go_enter Try.func28, Try.ntmps28
              go_wp2_with (first | ((with_reducible refine gate_callee (f := 14) rfl ?_); refine goesL_ (some 1) rfl rfl Try.func14 (by kernel_rfl) rfl #[.int .u32 4294967295, .int .u32 1] rfl (by (try simp only [List.map_toArray, List.map_cons, List.map_nil]); first | done | rfl | (simp only [List.length_drop, List.length_take]; rfl)) ?_; (with_reducible refine (seqn_Gap.calls 4294967295 1 t113 _ A1.out).mono ?_); rintro e w' ⟨rfl, ⟨nd, rfl⟩⟩; refine ⟨_, rfl, ?_⟩) | (go_at_call 14; (with_reducible refine (seqn_Gap.calls 0 2147483648 t114 _ A3.out).mono ?_); rintro e w' ⟨rfl, ⟨nd, rfl⟩⟩) | (go_at_call 24; (with_reducible refine (seqn_Near.calls 5000000000 705032704 t115 _ A5.out).mono ?_); rintro e w' ⟨rfl, ⟨nd, rfl⟩⟩) | (go_at_call 16; (with_reducible refine (seqn_Before.calls 1 2 true _ A7.out).mono ?_); rintro e w' ⟨rfl, ⟨nd, rfl⟩⟩) | (go_at_call 16; (with_reducible refine (seqn_Before.calls 2 2 false _ A9.out).mono ?_); rintro e w' ⟨rfl, ⟨nd, rfl⟩⟩) | (go_at_call 18; (with_reducible refine (seqn_Upto.calls 2 2 false _ A11.out).mono ?_); rintro e w' ⟨rfl, ⟨nd, rfl⟩⟩))
              go_ret
              exact ⟨by first | rfl | (simp; done) | (simp [*]; done), by repeat (first | exact Drawn0.refl _ | apply Drawn0.step)⟩
        · replace c8 := Bool.eq_false_iff.mpr c8
          subst c8
          have H1 : (some false) = some r := by rw [if_neg (show ¬ (false = true) by decide)] at H; exact H
          clear H
          have H := H1
          clear H1
          obtain rfl := Option.some.inj H
          go_enter Try.func28, Try.ntmps28
          go_wp2_with (first | ((with_reducible refine gate_callee (f := 14) rfl ?_); refine goesL_ (some 1) rfl rfl Try.func14 (by kernel_rfl) rfl #[.int .u32 4294967295, .int .u32 1] rfl (by (try simp only [List.map_toArray, List.map_cons, List.map_nil]); first | done | rfl | (simp only [List.length_drop, List.length_take]; rfl)) ?_; (with_reducible refine (seqn_Gap.calls 4294967295 1 t113 _ A1.out).mono ?_); rintro e w' ⟨rfl, ⟨nd, rfl⟩⟩; refine ⟨_, rfl, ?_⟩) | (go_at_call 14; (with_reducible refine (seqn_Gap.calls 0 2147483648 t114 _ A3.out).mono ?_); rintro e w' ⟨rfl, ⟨nd, rfl⟩⟩) | (go_at_call 24; (with_reducible refine (seqn_Near.calls 5000000000 705032704 t115 _ A5.out).mono ?_); rintro e w' ⟨rfl, ⟨nd, rfl⟩⟩) | (go_at_call 16; (with_reducible refine (seqn_Before.calls 1 2 false _ A7.out).mono ?_); rintro e w' ⟨rfl, ⟨nd, rfl⟩⟩))
          go_ret
          exact ⟨by first | rfl | (simp; done) | (simp [*]; done), by repeat (first | exact Drawn0.refl _ | apply Drawn0.step)⟩
      · rw [if_neg c6] at H
        have c6b0 : (t115 == 5000000000) = false := beq_eq_false_iff_ne.mpr c6
        have c6b1 : (t115 != 5000000000) = true := bne_iff_ne.mpr c6
        obtain rfl := Option.some.inj H
        go_enter Try.func28, Try.ntmps28
        go_wp2_with (first | ((with_reducible refine gate_callee (f := 14) rfl ?_); refine goesL_ (some 1) rfl rfl Try.func14 (by kernel_rfl) rfl #[.int .u32 4294967295, .int .u32 1] rfl (by (try simp only [List.map_toArray, List.map_cons, List.map_nil]); first | done | rfl | (simp only [List.length_drop, List.length_take]; rfl)) ?_; (with_reducible refine (seqn_Gap.calls 4294967295 1 t113 _ A1.out).mono ?_); rintro e w' ⟨rfl, ⟨nd, rfl⟩⟩; refine ⟨_, rfl, ?_⟩) | (go_at_call 14; (with_reducible refine (seqn_Gap.calls 0 2147483648 t114 _ A3.out).mono ?_); rintro e w' ⟨rfl, ⟨nd, rfl⟩⟩) | (go_at_call 24; (with_reducible refine (seqn_Near.calls 5000000000 705032704 t115 _ A5.out).mono ?_); rintro e w' ⟨rfl, ⟨nd, rfl⟩⟩))
        go_ret
        exact ⟨by first | rfl | (simp; done) | (simp [*]; done), by repeat (first | exact Drawn0.refl _ | apply Drawn0.step)⟩
    · rw [if_neg c4] at H
      have c4b0 : (t114 == (-2147483648)) = false := beq_eq_false_iff_ne.mpr c4
      have c4b1 : (t114 != (-2147483648)) = true := bne_iff_ne.mpr c4
      obtain rfl := Option.some.inj H
      go_enter Try.func28, Try.ntmps28
      go_wp2_with (first | ((with_reducible refine gate_callee (f := 14) rfl ?_); refine goesL_ (some 1) rfl rfl Try.func14 (by kernel_rfl) rfl #[.int .u32 4294967295, .int .u32 1] rfl (by (try simp only [List.map_toArray, List.map_cons, List.map_nil]); first | done | rfl | (simp only [List.length_drop, List.length_take]; rfl)) ?_; (with_reducible refine (seqn_Gap.calls 4294967295 1 t113 _ A1.out).mono ?_); rintro e w' ⟨rfl, ⟨nd, rfl⟩⟩; refine ⟨_, rfl, ?_⟩) | (go_at_call 14; (with_reducible refine (seqn_Gap.calls 0 2147483648 t114 _ A3.out).mono ?_); rintro e w' ⟨rfl, ⟨nd, rfl⟩⟩))
      go_ret
      exact ⟨by first | rfl | (simp; done) | (simp [*]; done), by repeat (first | exact Drawn0.refl _ | apply Drawn0.step)⟩
  · rw [if_neg c2] at H
    have c2b0 : (t113 == 2) = false := beq_eq_false_iff_ne.mpr c2
    have c2b1 : (t113 != 2) = true := bne_iff_ne.mpr c2
    obtain rfl := Option.some.inj H
    go_enter Try.func28, Try.ntmps28
    go_wp2_with (first | ((with_reducible refine gate_callee (f := 14) rfl ?_); refine goesL_ (some 1) rfl rfl Try.func14 (by kernel_rfl) rfl #[.int .u32 4294967295, .int .u32 1] rfl (by (try simp only [List.map_toArray, List.map_cons, List.map_nil]); first | done | rfl | (simp only [List.length_drop, List.length_take]; rfl)) ?_; (with_reducible refine (seqn_Gap.calls 4294967295 1 t113 _ A1.out).mono ?_); rintro e w' ⟨rfl, ⟨nd, rfl⟩⟩; refine ⟨_, rfl, ?_⟩))
    go_ret
    exact ⟨by first | rfl | (simp; done) | (simp [*]; done), by repeat (first | exact Drawn0.refl _ | apply Drawn0.step)⟩

end Go.Proofs.Ytbmekfammbfadaa.PAll
