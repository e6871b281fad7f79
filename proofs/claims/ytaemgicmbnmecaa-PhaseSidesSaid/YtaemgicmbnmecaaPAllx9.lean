-- Written by a program of this work (wip/mkprint.py, wip/myprint.sh) out of the translation; not trusted: Lean checks it.
import Derived.Test.YtaemgicmbnmecaaPAllx0
import Derived.Test.YtaemgicmbnmecaaPAllx3
import Derived.Test.YtaemgicmbnmecaaPAllx4
import Derived.Test.YtaemgicmbnmecaaPAllx5
namespace Go.Proofs.Ytaemgicmbnmecaa.PAll
open Go.RowKit Go.Proofs.YtaemgicmbnmecaaW.PrintWords Go.Proofs.YtaemgicmbnmecaaW.PrintLast Go.Proofs.YtaemgicmbnmecaaW.PrintMore
attribute [local go_sem] max2_int min2_int max_two min_two max_three min_three max_four min_four   -- for this text's walks alone
set_option linter.unusedVariables false
set_option linter.unusedSimpArgs false

/-! ### rampartlaw10_FlagsLetters: function 7 -/
def rampartlaw10_FlagsLetters.f (k : Nat) (a0 : Int) (a1 : Int) : Option (Bool) := (flags_Show.f k (Int.tmod (wrap64 (a0)) 64)).bind fun t155 => ((flags_Show.f k (Int.tmod (wrap64 (a1)) 64)).bind fun t156 => ((flags_Show.f k (Go.bits .or .i64 (Int.tmod (wrap64 (a0)) 64) (Int.tmod (wrap64 (a1)) 64))).bind fun t157 => ((flags_Parse.f k t157).bind fun bt158 => (if ((t155.toList == t156.toList) == ((Int.tmod (wrap64 (a0)) 64) == (Int.tmod (wrap64 (a1)) 64))) = true then (if bt158.2 = true then (if bt158.1 = (Go.bits .or .i64 (Int.tmod (wrap64 (a0)) 64) (Int.tmod (wrap64 (a1)) 64)) then (if (((Int.tmod (wrap64 (a0)) 64) == 0) == (t155.toList == ([46] : List UInt8))) = true then ((rampartlaw10_known.f k).bind fun t160 => (some t160)) else (some false)) else (some false)) else (some false)) else (some false)))))
theorem rampartlaw10_FlagsLetters.mono : ∀ a0 a1 k, LeO (rampartlaw10_FlagsLetters.f k a0 a1) (rampartlaw10_FlagsLetters.f (k + 1) a0 a1) := by
  intro a0 a1 k
  unfold rampartlaw10_FlagsLetters.f
  repeat' first
      | (with_reducible exact flags_Parse.mono _ _)
      | (with_reducible exact flags_Show.mono _ _)
      | (with_reducible exact rampartlaw10_known.mono _)
      | (with_reducible exact LeO.refl _)
      | (with_reducible exact LeO.none _)
      | (with_reducible refine LeO.ite ?_ ?_)
      | (with_reducible refine LeO.bind ?_ (fun _ => ?_))
      | exact flags_Parse.mono _ _
      | exact flags_Show.mono _ _
      | exact rampartlaw10_known.mono _
      | exact LeO.none _
      | refine LeO.ite ?_ ?_
      | refine LeO.bind ?_ (fun _ => ?_)
set_option maxHeartbeats 8000000 in
set_option maxRecDepth 100000 in
theorem rampartlaw10_FlagsLetters.calls (k : Nat) (a0 : Int) (a1 : Int) (r : Bool) (w : World) (h : rampartlaw10_FlagsLetters.f k a0 a1 = some r) :
    Calls Try.prog 7 #[.int .u8 a0, .int .u8 a1] w fun e w' => e = .returned (.bool r) ∧ Below w.heap.size w w' := by
  have HB := Aside0.mk (Below.refl w.heap.size w)
  have H : ((flags_Show.f k (Int.tmod (wrap64 (a0)) 64)).bind fun t155 => ((flags_Show.f k (Int.tmod (wrap64 (a1)) 64)).bind fun t156 => ((flags_Show.f k (Go.bits .or .i64 (Int.tmod (wrap64 (a0)) 64) (Int.tmod (wrap64 (a1)) 64))).bind fun t157 => ((flags_Parse.f k t157).bind fun bt158 => (if ((t155.toList == t156.toList) == ((Int.tmod (wrap64 (a0)) 64) == (Int.tmod (wrap64 (a1)) 64))) = true then (if bt158.2 = true then (if bt158.1 = (Go.bits .or .i64 (Int.tmod (wrap64 (a0)) 64) (Int.tmod (wrap64 (a1)) 64)) then (if (((Int.tmod (wrap64 (a0)) 64) == 0) == (t155.toList == ([46] : List UInt8))) = true then ((rampartlaw10_known.f k).bind fun t160 => (some t160)) else (some false)) else (some false)) else (some false)) else (some false)))))) = some r := h
  clear h
  replace H := Option.bind_eq_some_iff.mp H
  obtain ⟨t155, A30, H⟩ := H
  replace H : ((flags_Show.f k (Int.tmod (wrap64 (a1)) 64)).bind fun t156 => ((flags_Show.f k (Go.bits .or .i64 (Int.tmod (wrap64 (a0)) 64) (Int.tmod (wrap64 (a1)) 64))).bind fun t157 => ((flags_Parse.f k t157).bind fun bt158 => (if ((t155.toList == t156.toList) == ((Int.tmod (wrap64 (a0)) 64) == (Int.tmod (wrap64 (a1)) 64))) = true then (if bt158.2 = true then (if bt158.1 = (Go.bits .or .i64 (Int.tmod (wrap64 (a0)) 64) (Int.tmod (wrap64 (a1)) 64)) then (if (((Int.tmod (wrap64 (a0)) 64) == 0) == (t155.toList == ([46] : List UInt8))) = true then ((rampartlaw10_known.f k).bind fun t160 => (some t160)) else (some false)) else (some false)) else (some false)) else (some false))))) = some r := H
  have A3 := Aside0.mk A30
  clear A30
  replace H := Option.bind_eq_some_iff.mp H
  obtain ⟨t156, A40, H⟩ := H
  replace H : ((flags_Show.f k (Go.bits .or .i64 (Int.tmod (wrap64 (a0)) 64) (Int.tmod (wrap64 (a1)) 64))).bind fun t157 => ((flags_Parse.f k t157).bind fun bt158 => (if ((t155.toList == t156.toList) == ((Int.tmod (wrap64 (a0)) 64) == (Int.tmod (wrap64 (a1)) 64))) = true then (if bt158.2 = true then (if bt158.1 = (Go.bits .or .i64 (Int.tmod (wrap64 (a0)) 64) (Int.tmod (wrap64 (a1)) 64)) then (if (((Int.tmod (wrap64 (a0)) 64) == 0) == (t155.toList == ([46] : List UInt8))) = true then ((rampartlaw10_known.f k).bind fun t160 => (some t160)) else (some false)) else (some false)) else (some false)) else (some false)))) = some r := H
  have A4 := Aside0.mk A40
  clear A40
  replace H := Option.bind_eq_some_iff.mp H
  obtain ⟨t157, A50, H⟩ := H
  replace H : ((flags_Parse.f k t157).bind fun bt158 => (if ((t155.toList == t156.toList) == ((Int.tmod (wrap64 (a0)) 64) == (Int.tmod (wrap64 (a1)) 64))) = true then (if bt158.2 = true then (if bt158.1 = (Go.bits .or .i64 (Int.tmod (wrap64 (a0)) 64) (Int.tmod (wrap64 (a1)) 64)) then (if (((Int.tmod (wrap64 (a0)) 64) == 0) == (t155.toList == ([46] : List UInt8))) = true then ((rampartlaw10_known.f k).bind fun t160 => (some t160)) else (some false)) else (some false)) else (some false)) else (some false))) = some r := H
  have A5 := Aside0.mk A50
  clear A50
  replace H := Option.bind_eq_some_iff.mp H
  obtain ⟨⟨t158, t159⟩, A60, H⟩ := H
  replace H : (if ((t155.toList == t156.toList) == ((Int.tmod (wrap64 (a0)) 64) == (Int.tmod (wrap64 (a1)) 64))) = true then (if t159 = true then (if t158 = (Go.bits .or .i64 (Int.tmod (wrap64 (a0)) 64) (Int.tmod (wrap64 (a1)) 64)) then (if (((Int.tmod (wrap64 (a0)) 64) == 0) == (t155.toList == ([46] : List UInt8))) = true then ((rampartlaw10_known.f k).bind fun t160 => (some t160)) else (some false)) else (some false)) else (some false)) else (some false)) = some r := H
  have A6 := Aside0.mk A60
  clear A60
  by_cases c7 : ((t155.toList == t156.toList) == ((Int.tmod (wrap64 (a0)) 64) == (Int.tmod (wrap64 (a1)) 64))) = true
  · rw [if_pos c7] at H
    have c7b0 : ((t155.toList == t156.toList) == ((Int.tmod (wrap64 (a0)) 64) == (Int.tmod (wrap64 (a1)) 64))) = true := c7
    (try (have c7b1 : decide ((t155.toList == t156.toList) = ((Int.tmod (wrap64 (a0)) 64) == (Int.tmod (wrap64 (a1)) 64))) = true := by simpa using c7))
    (try (have c7b2 : ((t155.toList == t156.toList) == ((Int.tmod (wrap64 (a0)) 64) == (Int.tmod (wrap64 (a1)) 64))) = true := by simpa using c7))
    clear c7
    by_cases c8 : t159 = true
    · subst c8
      have H1 : (if t158 = (Go.bits .or .i64 (Int.tmod (wrap64 (a0)) 64) (Int.tmod (wrap64 (a1)) 64)) then (if (((Int.tmod (wrap64 (a0)) 64) == 0) == (t155.toList == ([46] : List UInt8))) = true then ((rampartlaw10_known.f k).bind fun t160 => (some t160)) else (some false)) else (some false)) = some r := by rw [if_pos rfl] at H; exact H
      clear H
      have H := H1
      clear H1
      by_cases c9 : t158 = (Go.bits .or .i64 (Int.tmod (wrap64 (a0)) 64) (Int.tmod (wrap64 (a1)) 64))
      · rw [if_pos c9] at H
        have c9b0 : (t158 == (Go.bits .or .i64 (Int.tmod (wrap64 (a0)) 64) (Int.tmod (wrap64 (a1)) 64))) = true := beq_iff_eq.mpr c9
        have c9b1 : (t158 != (Go.bits .or .i64 (Int.tmod (wrap64 (a0)) 64) (Int.tmod (wrap64 (a1)) 64))) = false := bne_eq_false_iff_eq.mpr c9
        clear c9
        by_cases c10 : (((Int.tmod (wrap64 (a0)) 64) == 0) == (t155.toList == ([46] : List UInt8))) = true
        · rw [if_pos c10] at H
          have c10b0 : (((Int.tmod (wrap64 (a0)) 64) == 0) == (t155.toList == ([46] : List UInt8))) = true := c10
          (try (have c10b1 : decide (((Int.tmod (wrap64 (a0)) 64) == 0) = (t155.toList == ([46] : List UInt8))) = true := by simpa using c10))
          (try (have c10b2 : (((Int.tmod (wrap64 (a0)) 64) == 0) == (t155.toList == ([46] : List UInt8))) = true := by simpa using c10))
          clear c10
          replace H := Option.bind_eq_some_iff.mp H
          obtain ⟨t160, A110, H⟩ := H
          replace H : (some t160) = some r := H
          have A11 := Aside0.mk A110
          clear A110
          obtain rfl := Option.some.inj H
          go_enter Try.func7, Try.ntmps7
          go_wp2_with (first | ((with_reducible refine gate_callee (f := 20) rfl ?_); refine goesL_ (some 18) rfl rfl Try.func20 (by kernel_rfl) rfl #[.int .i64 (Int.tmod (wrap64 (a0)) 64)] rfl (by (try simp only [List.map_toArray, List.map_cons, List.map_nil]); first | done | rfl | (simp only [List.length_drop, List.length_take]; rfl)) ?_; (with_reducible refine (flags_Show.calls k (Int.tmod (wrap64 (a0)) 64) t155 _ A3.out).mono ?_); rintro e w' ⟨rfl, ⟨nd, rfl⟩⟩; refine ⟨_, rfl, ?_⟩) | ((with_reducible refine gate_callee (f := 20) rfl ?_); refine goesL_ (some 20) rfl rfl Try.func20 (by kernel_rfl) rfl #[.int .i64 (Int.tmod (wrap64 (a1)) 64)] rfl (by (try simp only [List.map_toArray, List.map_cons, List.map_nil]); first | done | rfl | (simp only [List.length_drop, List.length_take]; rfl)) ?_; (with_reducible refine (flags_Show.calls k (Int.tmod (wrap64 (a1)) 64) t156 _ A4.out).mono ?_); rintro e w' ⟨rfl, ⟨nd, rfl⟩⟩; refine ⟨_, rfl, ?_⟩) | ((with_reducible refine gate_callee (f := 20) rfl ?_); refine goesL_ (some 25) rfl rfl Try.func20 (by kernel_rfl) rfl #[.int .i64 (Go.bits .or .i64 (Int.tmod (wrap64 (a0)) 64) (Int.tmod (wrap64 (a1)) 64))] rfl (by (try simp only [List.map_toArray, List.map_cons, List.map_nil]); first | done | rfl | (simp only [List.length_drop, List.length_take]; rfl)) ?_; (with_reducible refine (flags_Show.calls k (Go.bits .or .i64 (Int.tmod (wrap64 (a0)) 64) (Int.tmod (wrap64 (a1)) 64)) t157 _ A5.out).mono ?_); rintro e w' ⟨rfl, ⟨nd, rfl⟩⟩; refine ⟨_, rfl, ?_⟩) | ((with_reducible refine gate_callee (f := 18) rfl ?_); refine goesL_ (some 26) rfl rfl Try.func18 (by kernel_rfl) rfl #[.string t157] rfl (by (try simp only [List.map_toArray, List.map_cons, List.map_nil]); first | done | rfl | (simp only [List.length_drop, List.length_take]; rfl)) ?_; (with_reducible refine (flags_Parse.calls k t157 t158 true _ A6.out).mono ?_); rintro e w' ⟨rfl, ⟨nd, rfl⟩⟩; refine ⟨_, rfl, ?_⟩) | (go_at_call 17; (with_reducible refine (rampartlaw10_known.calls k  t160 _ A11.out).mono ?_); rintro e w12 ⟨rfl, hb⟩; have n0_ := Aside0.mk (below_step (by repeat (first | (with_reducible first | exact HB.out | apply below_alloc | apply pw_below_drewN | apply below_drew1) | exact HB.out)) hb); clear HB; have HB := n0_; clear n0_; (try clear hb); (try clear hb2); (try clear hk); (try clear hi)))
          go_ret
          exact ⟨by first | rfl | (simp [errW_none, errW_some] <;> rfl) | (simp [*, errW_none, errW_some] <;> rfl), by repeat (first | (with_reducible first | exact HB.out | apply below_alloc | apply pw_below_drewN | apply below_drew1) | exact HB.out)⟩
        · rw [if_neg c10] at H
          have c10b0 : (((Int.tmod (wrap64 (a0)) 64) == 0) == (t155.toList == ([46] : List UInt8))) = false := by simpa using c10
          (try (have c10b1 : decide (((Int.tmod (wrap64 (a0)) 64) == 0) = (t155.toList == ([46] : List UInt8))) = false := by simpa using c10))
          (try (have c10b2 : (((Int.tmod (wrap64 (a0)) 64) == 0) == (t155.toList == ([46] : List UInt8))) = false := by simpa using c10))
          (try (have c10b3 : ¬ (((Int.tmod (wrap64 (a0)) 64) == 0) = (t155.toList == ([46] : List UInt8))) := by simpa using c10))
          clear c10
          obtain rfl := Option.some.inj H
          go_enter Try.func7, Try.ntmps7
          go_wp2_with (first | ((with_reducible refine gate_callee (f := 20) rfl ?_); refine goesL_ (some 18) rfl rfl Try.func20 (by kernel_rfl) rfl #[.int .i64 (Int.tmod (wrap64 (a0)) 64)] rfl (by (try simp only [List.map_toArray, List.map_cons, List.map_nil]); first | done | rfl | (simp only [List.length_drop, List.length_take]; rfl)) ?_; (with_reducible refine (flags_Show.calls k (Int.tmod (wrap64 (a0)) 64) t155 _ A3.out).mono ?_); rintro e w' ⟨rfl, ⟨nd, rfl⟩⟩; refine ⟨_, rfl, ?_⟩) | ((with_reducible refine gate_callee (f := 20) rfl ?_); refine goesL_ (some 20) rfl rfl Try.func20 (by kernel_rfl) rfl #[.int .i64 (Int.tmod (wrap64 (a1)) 64)] rfl (by (try simp only [List.map_toArray, List.map_cons, List.map_nil]); first | done | rfl | (simp only [List.length_drop, List.length_take]; rfl)) ?_; (with_reducible refine (flags_Show.calls k (Int.tmod (wrap64 (a1)) 64) t156 _ A4.out).mono ?_); rintro e w' ⟨rfl, ⟨nd, rfl⟩⟩; refine ⟨_, rfl, ?_⟩) | ((with_reducible refine gate_callee (f := 20) rfl ?_); refine goesL_ (some 25) rfl rfl Try.func20 (by kernel_rfl) rfl #[.int .i64 (Go.bits .or .i64 (Int.tmod (wrap64 (a0)) 64) (Int.tmod (wrap64 (a1)) 64))] rfl (by (try simp only [List.map_toArray, List.map_cons, List.map_nil]); first | done | rfl | (simp only [List.length_drop, List.length_take]; rfl)) ?_; (with_reducible refine (flags_Show.calls k (Go.bits .or .i64 (Int.tmod (wrap64 (a0)) 64) (Int.tmod (wrap64 (a1)) 64)) t157 _ A5.out).mono ?_); rintro e w' ⟨rfl, ⟨nd, rfl⟩⟩; refine ⟨_, rfl, ?_⟩) | ((with_reducible refine gate_callee (f := 18) rfl ?_); refine goesL_ (some 26) rfl rfl Try.func18 (by kernel_rfl) rfl #[.string t157] rfl (by (try simp only [List.map_toArray, List.map_cons, List.map_nil]); first | done | rfl | (simp only [List.length_drop, List.length_take]; rfl)) ?_; (with_reducible refine (flags_Parse.calls k t157 t158 true _ A6.out).mono ?_); rintro e w' ⟨rfl, ⟨nd, rfl⟩⟩; refine ⟨_, rfl, ?_⟩))
          go_ret
          exact ⟨by first | rfl | (simp [errW_none, errW_some] <;> rfl) | (simp [*, errW_none, errW_some] <;> rfl), by repeat (first | (with_reducible first | exact HB.out | apply below_alloc | apply pw_below_drewN | apply below_drew1) | exact HB.out)⟩
      · rw [if_neg c9] at H
        have c9b0 : (t158 == (Go.bits .or .i64 (Int.tmod (wrap64 (a0)) 64) (Int.tmod (wrap64 (a1)) 64))) = false := beq_eq_false_iff_ne.mpr c9
        have c9b1 : (t158 != (Go.bits .or .i64 (Int.tmod (wrap64 (a0)) 64) (Int.tmod (wrap64 (a1)) 64))) = true := bne_iff_ne.mpr c9
        obtain rfl := Option.some.inj H
        go_enter Try.func7, Try.ntmps7
        go_wp2_with (first | ((with_reducible refine gate_callee (f := 20) rfl ?_); refine goesL_ (some 18) rfl rfl Try.func20 (by kernel_rfl) rfl #[.int .i64 (Int.tmod (wrap64 (a0)) 64)] rfl (by (try simp only [List.map_toArray, List.map_cons, List.map_nil]); first | done | rfl | (simp only [List.length_drop, List.length_take]; rfl)) ?_; (with_reducible refine (flags_Show.calls k (Int.tmod (wrap64 (a0)) 64) t155 _ A3.out).mono ?_); rintro e w' ⟨rfl, ⟨nd, rfl⟩⟩; refine ⟨_, rfl, ?_⟩) | ((with_reducible refine gate_callee (f := 20) rfl ?_); refine goesL_ (some 20) rfl rfl Try.func20 (by kernel_rfl) rfl #[.int .i64 (Int.tmod (wrap64 (a1)) 64)] rfl (by (try simp only [List.map_toArray, List.map_cons, List.map_nil]); first | done | rfl | (simp only [List.length_drop, List.length_take]; rfl)) ?_; (with_reducible refine (flags_Show.calls k (Int.tmod (wrap64 (a1)) 64) t156 _ A4.out).mono ?_); rintro e w' ⟨rfl, ⟨nd, rfl⟩⟩; refine ⟨_, rfl, ?_⟩) | ((with_reducible refine gate_callee (f := 20) rfl ?_); refine goesL_ (some 25) rfl rfl Try.func20 (by kernel_rfl) rfl #[.int .i64 (Go.bits .or .i64 (Int.tmod (wrap64 (a0)) 64) (Int.tmod (wrap64 (a1)) 64))] rfl (by (try simp only [List.map_toArray, List.map_cons, List.map_nil]); first | done | rfl | (simp only [List.length_drop, List.length_take]; rfl)) ?_; (with_reducible refine (flags_Show.calls k (Go.bits .or .i64 (Int.tmod (wrap64 (a0)) 64) (Int.tmod (wrap64 (a1)) 64)) t157 _ A5.out).mono ?_); rintro e w' ⟨rfl, ⟨nd, rfl⟩⟩; refine ⟨_, rfl, ?_⟩) | ((with_reducible refine gate_callee (f := 18) rfl ?_); refine goesL_ (some 26) rfl rfl Try.func18 (by kernel_rfl) rfl #[.string t157] rfl (by (try simp only [List.map_toArray, List.map_cons, List.map_nil]); first | done | rfl | (simp only [List.length_drop, List.length_take]; rfl)) ?_; (with_reducible refine (flags_Parse.calls k t157 t158 true _ A6.out).mono ?_); rintro e w' ⟨rfl, ⟨nd, rfl⟩⟩; refine ⟨_, rfl, ?_⟩))
        go_ret
        exact ⟨by first | rfl | (simp [errW_none, errW_some] <;> rfl) | (simp [*, errW_none, errW_some] <;> rfl), by repeat (first | (with_reducible first | exact HB.out | apply below_alloc | apply pw_below_drewN | apply below_drew1) | exact HB.out)⟩
    · replace c8 := Bool.eq_false_iff.mpr c8
      subst c8
      have H1 : (some false) = some r := by rw [if_neg (show ¬ (false = true) by decide)] at H; exact H
      clear H
      have H := H1
      clear H1
      obtain rfl := Option.some.inj H
      go_enter Try.func7, Try.ntmps7
      go_wp2_with (first | ((with_reducible refine gate_callee (f := 20) rfl ?_); refine goesL_ (some 18) rfl rfl Try.func20 (by kernel_rfl) rfl #[.int .i64 (Int.tmod (wrap64 (a0)) 64)] rfl (by (try simp only [List.map_toArray, List.map_cons, List.map_nil]); first | done | rfl | (simp only [List.length_drop, List.length_take]; rfl)) ?_; (with_reducible refine (flags_Show.calls k (Int.tmod (wrap64 (a0)) 64) t155 _ A3.out).mono ?_); rintro e w' ⟨rfl, ⟨nd, rfl⟩⟩; refine ⟨_, rfl, ?_⟩) | ((with_reducible refine gate_callee (f := 20) rfl ?_); refine goesL_ (some 20) rfl rfl Try.func20 (by kernel_rfl) rfl #[.int .i64 (Int.tmod (wrap64 (a1)) 64)] rfl (by (try simp only [List.map_toArray, List.map_cons, List.map_nil]); first | done | rfl | (simp only [List.length_drop, List.length_take]; rfl)) ?_; (with_reducible refine (flags_Show.calls k (Int.tmod (wrap64 (a1)) 64) t156 _ A4.out).mono ?_); rintro e w' ⟨rfl, ⟨nd, rfl⟩⟩; refine ⟨_, rfl, ?_⟩) | ((with_reducible refine gate_callee (f := 20) rfl ?_); refine goesL_ (some 25) rfl rfl Try.func20 (by kernel_rfl) rfl #[.int .i64 (Go.bits .or .i64 (Int.tmod (wrap64 (a0)) 64) (Int.tmod (wrap64 (a1)) 64))] rfl (by (try simp only [List.map_toArray, List.map_cons, List.map_nil]); first | done | rfl | (simp only [List.length_drop, List.length_take]; rfl)) ?_; (with_reducible refine (flags_Show.calls k (Go.bits .or .i64 (Int.tmod (wrap64 (a0)) 64) (Int.tmod (wrap64 (a1)) 64)) t157 _ A5.out).mono ?_); rintro e w' ⟨rfl, ⟨nd, rfl⟩⟩; refine ⟨_, rfl, ?_⟩) | ((with_reducible refine gate_callee (f := 18) rfl ?_); refine goesL_ (some 26) rfl rfl Try.func18 (by kernel_rfl) rfl #[.string t157] rfl (by (try simp only [List.map_toArray, List.map_cons, List.map_nil]); first | done | rfl | (simp only [List.length_drop, List.length_take]; rfl)) ?_; (with_reducible refine (flags_Parse.calls k t157 t158 false _ A6.out).mono ?_); rintro e w' ⟨rfl, ⟨nd, rfl⟩⟩; refine ⟨_, rfl, ?_⟩))
      go_ret
      exact ⟨by first | rfl | (simp [errW_none, errW_some] <;> rfl) | (simp [*, errW_none, errW_some] <;> rfl), by repeat (first | (with_reducible first | exact HB.out | apply below_alloc | apply pw_below_drewN | apply below_drew1) | exact HB.out)⟩
  · rw [if_neg c7] at H
    have c7b0 : ((t155.toList == t156.toList) == ((Int.tmod (wrap64 (a0)) 64) == (Int.tmod (wrap64 (a1)) 64))) = false := by simpa using c7
    (try (have c7b1 : decide ((t155.toList == t156.toList) = ((Int.tmod (wrap64 (a0)) 64) == (Int.tmod (wrap64 (a1)) 64))) = false := by simpa using c7))
    (try (have c7b2 : ((t155.toList == t156.toList) == ((Int.tmod (wrap64 (a0)) 64) == (Int.tmod (wrap64 (a1)) 64))) = false := by simpa using c7))
    (try (have c7b3 : ¬ ((t155.toList == t156.toList) = ((Int.tmod (wrap64 (a0)) 64) == (Int.tmod (wrap64 (a1)) 64))) := by simpa using c7))
    clear c7
    obtain rfl := Option.some.inj H
    go_enter Try.func7, Try.ntmps7
    go_wp2_with (first | ((with_reducible refine gate_callee (f := 20) rfl ?_); refine goesL_ (some 18) rfl rfl Try.func20 (by kernel_rfl) rfl #[.int .i64 (Int.tmod (wrap64 (a0)) 64)] rfl (by (try simp only [List.map_toArray, List.map_cons, List.map_nil]); first | done | rfl | (simp only [List.length_drop, List.length_take]; rfl)) ?_; (with_reducible refine (flags_Show.calls k (Int.tmod (wrap64 (a0)) 64) t155 _ A3.out).mono ?_); rintro e w' ⟨rfl, ⟨nd, rfl⟩⟩; refine ⟨_, rfl, ?_⟩) | ((with_reducible refine gate_callee (f := 20) rfl ?_); refine goesL_ (some 20) rfl rfl Try.func20 (by kernel_rfl) rfl #[.int .i64 (Int.tmod (wrap64 (a1)) 64)] rfl (by (try simp only [List.map_toArray, List.map_cons, List.map_nil]); first | done | rfl | (simp only [List.length_drop, List.length_take]; rfl)) ?_; (with_reducible refine (flags_Show.calls k (Int.tmod (wrap64 (a1)) 64) t156 _ A4.out).mono ?_); rintro e w' ⟨rfl, ⟨nd, rfl⟩⟩; refine ⟨_, rfl, ?_⟩) | ((with_reducible refine gate_callee (f := 20) rfl ?_); refine goesL_ (some 25) rfl rfl Try.func20 (by kernel_rfl) rfl #[.int .i64 (Go.bits .or .i64 (Int.tmod (wrap64 (a0)) 64) (Int.tmod (wrap64 (a1)) 64))] rfl (by (try simp only [List.map_toArray, List.map_cons, List.map_nil]); first | done | rfl | (simp only [List.length_drop, List.length_take]; rfl)) ?_; (with_reducible refine (flags_Show.calls k (Go.bits .or .i64 (Int.tmod (wrap64 (a0)) 64) (Int.tmod (wrap64 (a1)) 64)) t157 _ A5.out).mono ?_); rintro e w' ⟨rfl, ⟨nd, rfl⟩⟩; refine ⟨_, rfl, ?_⟩) | ((with_reducible refine gate_callee (f := 18) rfl ?_); refine goesL_ (some 26) rfl rfl Try.func18 (by kernel_rfl) rfl #[.string t157] rfl (by (try simp only [List.map_toArray, List.map_cons, List.map_nil]); first | done | rfl | (simp only [List.length_drop, List.length_take]; rfl)) ?_; (with_reducible refine (flags_Parse.calls k t157 t158 t159 _ A6.out).mono ?_); rintro e w' ⟨rfl, ⟨nd, rfl⟩⟩; refine ⟨_, rfl, ?_⟩))
    go_ret
    exact ⟨by first | rfl | (simp [errW_none, errW_some] <;> rfl) | (simp [*, errW_none, errW_some] <;> rfl), by repeat (first | (with_reducible first | exact HB.out | apply below_alloc | apply pw_below_drewN | apply below_drew1) | exact HB.out)⟩

/-- THE ONE PURE STATEMENT of rampartlaw10_FlagsLetters: yours. -/
def rampartlaw10_FlagsLetters.Pure : Prop := ∀ (a0 : Int) (a1 : Int), (Lit.int .u8 a0).wf = true → (Lit.int .u8 a1).wf = true → ∃ k, rampartlaw10_FlagsLetters.f k a0 a1 = some true
theorem rampartlaw10_FlagsLetters.walk (P : rampartlaw10_FlagsLetters.Pure) (a0 : Int) (a1 : Int) (w : World) (w0 : (Lit.int .u8 a0).wf = true) (w1 : (Lit.int .u8 a1).wf = true) :
    Calls Try.prog 7 #[.int .u8 a0, .int .u8 a1] w fun e w' => e = .returned (.bool true) ∧ Below w.heap.size w w' := by
  obtain ⟨k, h⟩ := P a0 a1 w0 w1
  refine (rampartlaw10_FlagsLetters.calls k a0 a1 true w h).mono ?_
  rintro e w' ⟨rfl, hd⟩
  exact ⟨rfl, hd⟩

/-! ### phase_begins: function 34 -/
mutual
def phase_begins.j0 : Nat → Int → Bool → Bool → Option (Int × Bool)
  | 0, _, _, _ => none
  | k + 1, x0, x1, x6 => if x6 = true then (some (1, true)) else (if x0 = 1 then (phase_begins.j1 k x0 x1) else (phase_begins.j1 k x0 false))
def phase_begins.j1 : Nat → Int → Bool → Option (Int × Bool)
  | 0, _, _ => none
  | k + 1, x0, x13 => if x13 = true then (some (2, true)) else (if x0 = 1 then (some (x0, true)) else (if x0 = 2 then (some (x0, true)) else (if x0 = 3 then (some (x0, true)) else (some (x0, false)))))
end
def phase_begins.f (k : Nat) (a0 : Int) (a1 : Bool) : Option (Int × Bool) := if a0 = 0 then (phase_begins.j0 k a0 a1 (!a1)) else (phase_begins.j0 k a0 a1 false)
theorem phase_begins.mono_l : ∀ k, (∀ y0 y1 y2, LeO (phase_begins.j0 k y0 y1 y2) (phase_begins.j0 (k + 1) y0 y1 y2)) ∧ (∀ y0 y1, LeO (phase_begins.j1 k y0 y1) (phase_begins.j1 (k + 1) y0 y1))
  | 0 => ⟨fun _ _ _ r h => by simp [phase_begins.j0] at h, fun _ _ r h => by simp [phase_begins.j1] at h⟩
  | k + 1 => by
    obtain ⟨ih0, ih1⟩ := phase_begins.mono_l k
    refine ⟨?_, ?_⟩
    · intro y0 y1 y2
      unfold phase_begins.j0
      repeat' first
      | (with_reducible exact ih0 _ _ _)
      | (with_reducible exact ih1 _ _)
      | (with_reducible exact LeO.refl _)
      | (with_reducible exact LeO.none _)
      | (with_reducible refine LeO.ite ?_ ?_)
      | (with_reducible refine LeO.bind ?_ (fun _ => ?_))
      | exact ih0 _ _ _
      | exact ih1 _ _
      | exact LeO.none _
      | refine LeO.ite ?_ ?_
      | refine LeO.bind ?_ (fun _ => ?_)
    · intro y0 y1
      unfold phase_begins.j1
      repeat' first
      | (with_reducible exact ih0 _ _ _)
      | (with_reducible exact ih1 _ _)
      | (with_reducible exact LeO.refl _)
      | (with_reducible exact LeO.none _)
      | (with_reducible refine LeO.ite ?_ ?_)
      | (with_reducible refine LeO.bind ?_ (fun _ => ?_))
      | exact ih0 _ _ _
      | exact ih1 _ _
      | exact LeO.none _
      | refine LeO.ite ?_ ?_
      | refine LeO.bind ?_ (fun _ => ?_)
theorem phase_begins.mono : ∀ a0 a1 k, LeO (phase_begins.f k a0 a1) (phase_begins.f (k + 1) a0 a1) := by
  intro a0 a1 k
  obtain ⟨ih0, ih1⟩ := phase_begins.mono_l k
  unfold phase_begins.f
  repeat' first
      | (with_reducible exact ih0 _ _ _)
      | (with_reducible exact ih1 _ _)
      | (with_reducible exact LeO.refl _)
      | (with_reducible exact LeO.none _)
      | (with_reducible refine LeO.ite ?_ ?_)
      | (with_reducible refine LeO.bind ?_ (fun _ => ?_))
      | exact ih0 _ _ _
      | exact ih1 _ _
      | exact LeO.none _
      | refine LeO.ite ?_ ?_
      | refine LeO.bind ?_ (fun _ => ?_)
set_option maxHeartbeats 8000000 in
set_option maxRecDepth 100000 in
theorem phase_begins.calls (k : Nat) (a0 : Int) (a1 : Bool) (r1 : Int) (r2 : Bool) (w : World) (h : phase_begins.f k a0 a1 = some (r1, r2)) :
    Calls Try.prog 34 #[.int .i64 a0, .bool a1] w fun e w' => e = .returned (.tuple #[.int .i64 r1, .bool r2]) ∧ Drawn0 w w' := by
  have H : (if a0 = 0 then (phase_begins.j0 k a0 a1 (!a1)) else (phase_begins.j0 k a0 a1 false)) = some (r1, r2) := h
  clear h
  have HC3 := Aside0.mk H
  clear H
  go_enter Try.func34, Try.ntmps34
  go_upto_region 1 with (fail)
  go_cut [6] (fun v6 wc => ∃ (kq : Nat) (x6_2 : Bool), v6 = .bool x6_2 ∧ Aside0 (phase_begins.j0 kq a0 a1 x6_2 = some (r1, r2)) ∧ Aside0 (kq ≤ k) ∧ Drawn0 w wc)
  case first =>
    have H := HC3.out
    clear HC3
    by_cases c4 : a0 = 0
    · rw [if_pos c4] at H
      have c4b0 : (a0 == 0) = true := beq_iff_eq.mpr c4
      have c4b1 : (a0 != 0) = false := bne_eq_false_iff_eq.mpr c4
      clear c4
      (first | rw [c4b0] | (simp only [i64_w, i32_w]; rw [c4b0]) | skip)
      have H' := Aside0.mk H
      clear H
      go_wp2
      go_meet
      case rel => exact ⟨_, (!a1), (by first | rfl | (simp; done) | (simp [*]; done)), H', ⟨by first | omega | exact Nat.le_refl _⟩, by repeat (first | exact Drawn0.refl _ | apply Drawn0.step)⟩
    · rw [if_neg c4] at H
      have c4b0 : (a0 == 0) = false := beq_eq_false_iff_ne.mpr c4
      have c4b1 : (a0 != 0) = true := bne_iff_ne.mpr c4
      (first | rw [c4b0] | (simp only [i64_w, i32_w]; rw [c4b0]) | skip)
      have H' := Aside0.mk H
      clear H
      go_wp2
      go_meet
      case rel => exact ⟨_, (false), (by first | rfl | (simp; done) | (simp [*]; done)), H', ⟨by first | omega | exact Nat.le_refl _⟩, by repeat (first | exact Drawn0.refl _ | apply Drawn0.step)⟩
  case rest =>
    clear HC3
    try clear p2
    try clear c3
    try clear c4
    try clear c4b0
    try clear c4b1
    obtain ⟨kq, x6_2, rfl, HA, HJ2, ⟨mc2, rfl⟩⟩ := hcut
    cases kq with
    | zero => exact absurd HA.out (by simp [phase_begins.j0])
    | succ kj2 =>
      have H := HA.out
      clear HA
      simp only [phase_begins.j0] at H
      by_cases c5 : x6_2 = true
      · subst c5
        have H1 : (some (1, true)) = some (r1, r2) := by rw [if_pos rfl] at H; exact H
        clear H
        have H := H1
        clear H1
        simp only [Option.some.injEq, Prod.mk.injEq] at H
        obtain ⟨rfl, rfl⟩ := H
        go_wp2
        go_ret2
        exact ⟨by first | rfl | (simp; done) | (simp [*]; done), by repeat (first | exact Drawn0.refl _ | apply Drawn0.step)⟩
      · replace c5 := Bool.eq_false_iff.mpr c5
        subst c5
        have H1 : (if a0 = 1 then (phase_begins.j1 kj2 a0 a1) else (phase_begins.j1 kj2 a0 false)) = some (r1, r2) := by rw [if_neg (show ¬ (false = true) by decide)] at H; exact H
        clear H
        have H := H1
        clear H1
        have HC6 := Aside0.mk H
        clear H
        go_upto_region 3 with (fail)
        go_cut [13] (fun v13 wc => ∃ (kq : Nat) (x13_5 : Bool), v13 = .bool x13_5 ∧ Aside0 (phase_begins.j1 kq a0 x13_5 = some (r1, r2)) ∧ Aside0 (kq ≤ kj2) ∧ Drawn0 w wc)
        case first =>
          have H := HC6.out
          clear HC6
          by_cases c7 : a0 = 1
          · rw [if_pos c7] at H
            have c7b0 : (a0 == 1) = true := beq_iff_eq.mpr c7
            have c7b1 : (a0 != 1) = false := bne_eq_false_iff_eq.mpr c7
            clear c7
            (first | rw [c7b0] | (simp only [i64_w, i32_w]; rw [c7b0]) | skip)
            have H' := Aside0.mk H
            clear H
            go_wp2
            go_meet
            case rel => exact ⟨_, (a1), (by first | rfl | (simp; done) | (simp [*]; done)), H', ⟨by have := HJ2.out; first | omega | exact Nat.le_refl _⟩, by repeat (first | exact Drawn0.refl _ | apply Drawn0.step)⟩
          · rw [if_neg c7] at H
            have c7b0 : (a0 == 1) = false := beq_eq_false_iff_ne.mpr c7
            have c7b1 : (a0 != 1) = true := bne_iff_ne.mpr c7
            (first | rw [c7b0] | (simp only [i64_w, i32_w]; rw [c7b0]) | skip)
            have H' := Aside0.mk H
            clear H
            go_wp2
            go_meet
            case rel => exact ⟨_, (false), (by first | rfl | (simp; done) | (simp [*]; done)), H', ⟨by have := HJ2.out; first | omega | exact Nat.le_refl _⟩, by repeat (first | exact Drawn0.refl _ | apply Drawn0.step)⟩
        case rest =>
          clear HC6
          try clear c2
          try clear p2
          try clear c3
          try clear c4
          try clear c4b0
          try clear c4b1
          try clear c5
          try clear c7
          try clear c7b0
          try clear c7b1
          try clear p2
          obtain ⟨kq, x13_5, rfl, HA, HJ5, ⟨mc5, rfl⟩⟩ := hcut
          cases kq with
          | zero => exact absurd HA.out (by simp [phase_begins.j1])
          | succ kj5 =>
            have H := HA.out
            clear HA
            simp only [phase_begins.j1] at H
            by_cases c8 : x13_5 = true
            · subst c8
              have H1 : (some (2, true)) = some (r1, r2) := by rw [if_pos rfl] at H; exact H
              clear H
              have H := H1
              clear H1
              simp only [Option.some.injEq, Prod.mk.injEq] at H
              obtain ⟨rfl, rfl⟩ := H
              go_wp2
              go_ret2
              exact ⟨by first | rfl | (simp; done) | (simp [*]; done), by repeat (first | exact Drawn0.refl _ | apply Drawn0.step)⟩
            · replace c8 := Bool.eq_false_iff.mpr c8
              subst c8
              have H1 : (if a0 = 1 then (some (a0, true)) else (if a0 = 2 then (some (a0, true)) else (if a0 = 3 then (some (a0, true)) else (some (a0, false))))) = some (r1, r2) := by rw [if_neg (show ¬ (false = true) by decide)] at H; exact H
              clear H
              have H := H1
              clear H1
              by_cases c9 : a0 = 1
              · rw [if_pos c9] at H
                have c9b0 : (a0 == 1) = true := beq_iff_eq.mpr c9
                have c9b1 : (a0 != 1) = false := bne_eq_false_iff_eq.mpr c9
                clear c9
                simp only [Option.some.injEq, Prod.mk.injEq] at H
                obtain ⟨rfl, rfl⟩ := H
                go_wp2
                go_ret2
                exact ⟨by first | rfl | (simp; done) | (simp [*]; done), by repeat (first | exact Drawn0.refl _ | apply Drawn0.step)⟩
              · rw [if_neg c9] at H
                have c9b0 : (a0 == 1) = false := beq_eq_false_iff_ne.mpr c9
                have c9b1 : (a0 != 1) = true := bne_iff_ne.mpr c9
                by_cases c10 : a0 = 2
                · rw [if_pos c10] at H
                  have c10b0 : (a0 == 2) = true := beq_iff_eq.mpr c10
                  have c10b1 : (a0 != 2) = false := bne_eq_false_iff_eq.mpr c10
                  clear c10
                  simp only [Option.some.injEq, Prod.mk.injEq] at H
                  obtain ⟨rfl, rfl⟩ := H
                  go_wp2
                  go_ret2
                  exact ⟨by first | rfl | (simp; done) | (simp [*]; done), by repeat (first | exact Drawn0.refl _ | apply Drawn0.step)⟩
                · rw [if_neg c10] at H
                  have c10b0 : (a0 == 2) = false := beq_eq_false_iff_ne.mpr c10
                  have c10b1 : (a0 != 2) = true := bne_iff_ne.mpr c10
                  by_cases c11 : a0 = 3
                  · rw [if_pos c11] at H
                    have c11b0 : (a0 == 3) = true := beq_iff_eq.mpr c11
                    have c11b1 : (a0 != 3) = false := bne_eq_false_iff_eq.mpr c11
                    clear c11
                    simp only [Option.some.injEq, Prod.mk.injEq] at H
                    obtain ⟨rfl, rfl⟩ := H
                    go_wp2
                    go_ret2
                    exact ⟨by first | rfl | (simp; done) | (simp [*]; done), by repeat (first | exact Drawn0.refl _ | apply Drawn0.step)⟩
                  · rw [if_neg c11] at H
                    have c11b0 : (a0 == 3) = false := beq_eq_false_iff_ne.mpr c11
                    have c11b1 : (a0 != 3) = true := bne_iff_ne.mpr c11
                    simp only [Option.some.injEq, Prod.mk.injEq] at H
                    obtain ⟨rfl, rfl⟩ := H
                    go_wp2
                    go_ret2
                    exact ⟨by first | rfl | (simp; done) | (simp [*]; done), by repeat (first | exact Drawn0.refl _ | apply Drawn0.step)⟩

end Go.Proofs.Ytaemgicmbnmecaa.PAll
