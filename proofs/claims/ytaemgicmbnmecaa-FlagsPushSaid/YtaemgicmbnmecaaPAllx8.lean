-- Written by a program of this work (wip/mkprint.py, wip/myprint.sh) out of the translation; not trusted: Lean checks it.
import Derived.Test.YtaemgicmbnmecaaPAllx0
import Derived.Test.YtaemgicmbnmecaaPAllx1
import Derived.Test.YtaemgicmbnmecaaPAllx5
namespace Go.Proofs.Ytaemgicmbnmecaa.PAll
open Go.RowKit Go.Proofs.YtaemgicmbnmecaaW.PrintWords Go.Proofs.YtaemgicmbnmecaaW.PrintLast Go.Proofs.YtaemgicmbnmecaaW.PrintMore
attribute [local go_sem] max2_int min2_int max_two min_two max_three min_three max_four min_four   -- for this text's walks alone
set_option linter.unusedVariables false
set_option linter.unusedSimpArgs false

/-! ### rampartlaw10_FlagsPush: function 6 -/
def rampartlaw10_FlagsPush.j0 : Nat → Int → Int → Bool → Option (Bool)
  | 0, _, _, _ => none
  | k + 1, x3, x4, x28 => if x28 = true then (some false) else (if (Go.bits .and .i64 x3 4) = 0 then (if x4 = 5 then (some false) else (if x4 = 3 then (if (Go.bits .and .i64 x3 16) = 0 then (some false) else ((rampartlaw10_known.f k).bind fun t150 => (some t150))) else (if x4 = 4 then (if (Go.bits .and .i64 x3 16) = 0 then (some false) else ((rampartlaw10_known.f k).bind fun t151 => (some t151))) else (if x4 = 2 then (if (Go.bits .and .i64 x3 16) = 0 then (some false) else ((rampartlaw10_known.f k).bind fun t152 => (some t152))) else ((rampartlaw10_known.f k).bind fun t153 => (some t153)))))) else (if ((x4 == 5) == ((Go.bits .and .i64 x3 3) == 0)) = true then ((rampartlaw10_known.f k).bind fun t154 => (some t154)) else (some false)))
def rampartlaw10_FlagsPush.f (k : Nat) (a0 : Int) : Option (Bool) := (flags_Class.f k (Int.tmod (wrap64 (a0)) 64)).bind fun t146 => ((flags_Class.f k (Go.bits .or .i64 (Int.tmod (wrap64 (a0)) 64) 8)).bind fun t147 => (if t147 = t146 then ((flags_Class.f k (Go.bits .or .i64 (Int.tmod (wrap64 (a0)) 64) 32)).bind fun t148 => (if t148 = t146 then ((flags_Class.f k (Go.bits .andNot .i64 (Int.tmod (wrap64 (a0)) 64) 40)).bind fun t149 => (rampartlaw10_FlagsPush.j0 k (Int.tmod (wrap64 (a0)) 64) t146 (t149 != t146))) else (rampartlaw10_FlagsPush.j0 k (Int.tmod (wrap64 (a0)) 64) t146 true))) else (rampartlaw10_FlagsPush.j0 k (Int.tmod (wrap64 (a0)) 64) t146 true)))
theorem rampartlaw10_FlagsPush.mono_l : ∀ k, (∀ y0 y1 y2, LeO (rampartlaw10_FlagsPush.j0 k y0 y1 y2) (rampartlaw10_FlagsPush.j0 (k + 1) y0 y1 y2))
  | 0 => fun _ _ _ r h => by simp [rampartlaw10_FlagsPush.j0] at h
  | k + 1 => by
    have ih0 := rampartlaw10_FlagsPush.mono_l k
    · intro y0 y1 y2
      unfold rampartlaw10_FlagsPush.j0
      repeat' first
      | (with_reducible exact ih0 _ _ _)
      | (with_reducible exact flags_Class.mono _ _)
      | (with_reducible exact rampartlaw10_known.mono _)
      | (with_reducible exact LeO.refl _)
      | (with_reducible exact LeO.none _)
      | (with_reducible refine LeO.ite ?_ ?_)
      | (with_reducible refine LeO.bind ?_ (fun _ => ?_))
      | exact ih0 _ _ _
      | exact flags_Class.mono _ _
      | exact rampartlaw10_known.mono _
      | exact LeO.none _
      | refine LeO.ite ?_ ?_
      | refine LeO.bind ?_ (fun _ => ?_)
theorem rampartlaw10_FlagsPush.mono : ∀ a0 k, LeO (rampartlaw10_FlagsPush.f k a0) (rampartlaw10_FlagsPush.f (k + 1) a0) := by
  intro a0 k
  have ih0 := rampartlaw10_FlagsPush.mono_l k
  unfold rampartlaw10_FlagsPush.f
  repeat' first
      | (with_reducible exact ih0 _ _ _)
      | (with_reducible exact flags_Class.mono _ _)
      | (with_reducible exact rampartlaw10_known.mono _)
      | (with_reducible exact LeO.refl _)
      | (with_reducible exact LeO.none _)
      | (with_reducible refine LeO.ite ?_ ?_)
      | (with_reducible refine LeO.bind ?_ (fun _ => ?_))
      | exact ih0 _ _ _
      | exact flags_Class.mono _ _
      | exact rampartlaw10_known.mono _
      | exact LeO.none _
      | refine LeO.ite ?_ ?_
      | refine LeO.bind ?_ (fun _ => ?_)
set_option maxHeartbeats 8000000 in
set_option maxRecDepth 100000 in
theorem rampartlaw10_FlagsPush.calls (k : Nat) (a0 : Int) (r : Bool) (w : World) (h : rampartlaw10_FlagsPush.f k a0 = some r) :
    Calls Try.prog 6 #[.int .u8 a0] w fun e w' => e = .returned (.bool r) ∧ Below w.heap.size w w' := by
  have HB := Aside0.mk (Below.refl w.heap.size w)
  have H : ((flags_Class.f k (Int.tmod (wrap64 (a0)) 64)).bind fun t146 => ((flags_Class.f k (Go.bits .or .i64 (Int.tmod (wrap64 (a0)) 64) 8)).bind fun t147 => (if t147 = t146 then ((flags_Class.f k (Go.bits .or .i64 (Int.tmod (wrap64 (a0)) 64) 32)).bind fun t148 => (if t148 = t146 then ((flags_Class.f k (Go.bits .andNot .i64 (Int.tmod (wrap64 (a0)) 64) 40)).bind fun t149 => (rampartlaw10_FlagsPush.j0 k (Int.tmod (wrap64 (a0)) 64) t146 (t149 != t146))) else (rampartlaw10_FlagsPush.j0 k (Int.tmod (wrap64 (a0)) 64) t146 true))) else (rampartlaw10_FlagsPush.j0 k (Int.tmod (wrap64 (a0)) 64) t146 true)))) = some r := h
  clear h
  replace H := Option.bind_eq_some_iff.mp H
  obtain ⟨t146, A20, H⟩ := H
  replace H : ((flags_Class.f k (Go.bits .or .i64 (Int.tmod (wrap64 (a0)) 64) 8)).bind fun t147 => (if t147 = t146 then ((flags_Class.f k (Go.bits .or .i64 (Int.tmod (wrap64 (a0)) 64) 32)).bind fun t148 => (if t148 = t146 then ((flags_Class.f k (Go.bits .andNot .i64 (Int.tmod (wrap64 (a0)) 64) 40)).bind fun t149 => (rampartlaw10_FlagsPush.j0 k (Int.tmod (wrap64 (a0)) 64) t146 (t149 != t146))) else (rampartlaw10_FlagsPush.j0 k (Int.tmod (wrap64 (a0)) 64) t146 true))) else (rampartlaw10_FlagsPush.j0 k (Int.tmod (wrap64 (a0)) 64) t146 true))) = some r := H
  have A2 := Aside0.mk A20
  clear A20
  have HC3 := Aside0.mk H
  clear H
  go_enter Try.func6, Try.ntmps6
  go_upto_region 3 with (first | ((with_reducible refine gate_callee (f := 13) rfl ?_); refine goesL_ (some 9) rfl rfl Try.func13 (by kernel_rfl) rfl #[.int .i64 (Int.tmod (wrap64 (a0)) 64)] rfl (by (try simp only [List.map_toArray, List.map_cons, List.map_nil]); first | done | rfl | (simp only [List.length_drop, List.length_take]; rfl)) ?_; (with_reducible refine (flags_Class.calls k (Int.tmod (wrap64 (a0)) 64) t146 _ A2.out).mono ?_); rintro e w' ⟨rfl, ⟨nd, rfl⟩⟩; refine ⟨_, rfl, ?_⟩))
  (try simp only [Act.put, List.setIfInBounds_toArray, List.set_cons_zero, List.set_cons_succ])
  go_cut [28] (fun v28 wc => ∃ (kq : Nat) (x28_2 : Bool), v28 = .bool x28_2 ∧ Aside0 (rampartlaw10_FlagsPush.j0 kq (Int.tmod (wrap64 (a0)) 64) t146 x28_2 = some r) ∧ Aside0 (kq ≤ k) ∧ Aside0 (Below w.heap.size w wc))
  case first =>
    have H := HC3.out
    clear HC3
    replace H := Option.bind_eq_some_iff.mp H
    obtain ⟨t147, A40, H⟩ := H
    replace H : (if t147 = t146 then ((flags_Class.f k (Go.bits .or .i64 (Int.tmod (wrap64 (a0)) 64) 32)).bind fun t148 => (if t148 = t146 then ((flags_Class.f k (Go.bits .andNot .i64 (Int.tmod (wrap64 (a0)) 64) 40)).bind fun t149 => (rampartlaw10_FlagsPush.j0 k (Int.tmod (wrap64 (a0)) 64) t146 (t149 != t146))) else (rampartlaw10_FlagsPush.j0 k (Int.tmod (wrap64 (a0)) 64) t146 true))) else (rampartlaw10_FlagsPush.j0 k (Int.tmod (wrap64 (a0)) 64) t146 true)) = some r := H
    have A4 := Aside0.mk A40
    clear A40
    by_cases c5 : t147 = t146
    · rw [if_pos c5] at H
      have c5b0 : (t147 == t146) = true := beq_iff_eq.mpr c5
      have c5b1 : (t147 != t146) = false := bne_eq_false_iff_eq.mpr c5
      clear c5
      (first | rw [c5b0] | (simp only [i64_w, i32_w]; rw [c5b0]) | skip)
      replace H := Option.bind_eq_some_iff.mp H
      obtain ⟨t148, A60, H⟩ := H
      replace H : (if t148 = t146 then ((flags_Class.f k (Go.bits .andNot .i64 (Int.tmod (wrap64 (a0)) 64) 40)).bind fun t149 => (rampartlaw10_FlagsPush.j0 k (Int.tmod (wrap64 (a0)) 64) t146 (t149 != t146))) else (rampartlaw10_FlagsPush.j0 k (Int.tmod (wrap64 (a0)) 64) t146 true)) = some r := H
      have A6 := Aside0.mk A60
      clear A60
      by_cases c7 : t148 = t146
      · rw [if_pos c7] at H
        have c7b0 : (t148 == t146) = true := beq_iff_eq.mpr c7
        have c7b1 : (t148 != t146) = false := bne_eq_false_iff_eq.mpr c7
        clear c7
        replace H := Option.bind_eq_some_iff.mp H
        obtain ⟨t149, A80, H⟩ := H
        replace H : (rampartlaw10_FlagsPush.j0 k (Int.tmod (wrap64 (a0)) 64) t146 (t149 != t146)) = some r := H
        have A8 := Aside0.mk A80
        clear A80
        have H' := Aside0.mk H
        clear H
        go_wp2_with (first | ((with_reducible refine gate_callee (f := 13) rfl ?_); refine goesL_ (some 12) rfl rfl Try.func13 (by kernel_rfl) rfl #[.int .i64 (Go.bits .or .i64 (Int.tmod (wrap64 (a0)) 64) 8)] rfl (by (try simp only [List.map_toArray, List.map_cons, List.map_nil]); first | done | rfl | (simp only [List.length_drop, List.length_take]; rfl)) ?_; (with_reducible refine (flags_Class.calls k (Go.bits .or .i64 (Int.tmod (wrap64 (a0)) 64) 8) t147 _ A4.out).mono ?_); rintro e w' ⟨rfl, ⟨nd, rfl⟩⟩; refine ⟨_, rfl, ?_⟩) | (go_at_call 13; (with_reducible refine (flags_Class.calls k (Go.bits .or .i64 (Int.tmod (wrap64 (a0)) 64) 32) t148 _ A6.out).mono ?_); rintro e w' ⟨rfl, ⟨nd, rfl⟩⟩) | (go_at_call 13; (with_reducible refine (flags_Class.calls k (Go.bits .andNot .i64 (Int.tmod (wrap64 (a0)) 64) 40) t149 _ A8.out).mono ?_); rintro e w' ⟨rfl, ⟨nd, rfl⟩⟩))
        go_meet
        case rel => exact ⟨_, ((t149 != t146)), (by first | rfl | (simp; done) | (simp [*]; done)), H', ⟨by first | omega | exact Nat.le_refl _⟩, ⟨by repeat (first | (with_reducible first | exact HB.out | apply below_alloc | apply pw_below_drewN | apply below_drew1) | exact HB.out)⟩⟩
      · rw [if_neg c7] at H
        have c7b0 : (t148 == t146) = false := beq_eq_false_iff_ne.mpr c7
        have c7b1 : (t148 != t146) = true := bne_iff_ne.mpr c7
        have H' := Aside0.mk H
        clear H
        go_wp2_with (first | ((with_reducible refine gate_callee (f := 13) rfl ?_); refine goesL_ (some 12) rfl rfl Try.func13 (by kernel_rfl) rfl #[.int .i64 (Go.bits .or .i64 (Int.tmod (wrap64 (a0)) 64) 8)] rfl (by (try simp only [List.map_toArray, List.map_cons, List.map_nil]); first | done | rfl | (simp only [List.length_drop, List.length_take]; rfl)) ?_; (with_reducible refine (flags_Class.calls k (Go.bits .or .i64 (Int.tmod (wrap64 (a0)) 64) 8) t147 _ A4.out).mono ?_); rintro e w' ⟨rfl, ⟨nd, rfl⟩⟩; refine ⟨_, rfl, ?_⟩) | (go_at_call 13; (with_reducible refine (flags_Class.calls k (Go.bits .or .i64 (Int.tmod (wrap64 (a0)) 64) 32) t148 _ A6.out).mono ?_); rintro e w' ⟨rfl, ⟨nd, rfl⟩⟩))
        go_meet
        case rel => exact ⟨_, (true), (by first | rfl | (simp; done) | (simp [*]; done)), H', ⟨by first | omega | exact Nat.le_refl _⟩, ⟨by repeat (first | (with_reducible first | exact HB.out | apply below_alloc | apply pw_below_drewN | apply below_drew1) | exact HB.out)⟩⟩
    · rw [if_neg c5] at H
      have c5b0 : (t147 == t146) = false := beq_eq_false_iff_ne.mpr c5
      have c5b1 : (t147 != t146) = true := bne_iff_ne.mpr c5
      (first | rw [c5b0] | (simp only [i64_w, i32_w]; rw [c5b0]) | skip)
      have H' := Aside0.mk H
      clear H
      go_wp2_with (first | ((with_reducible refine gate_callee (f := 13) rfl ?_); refine goesL_ (some 12) rfl rfl Try.func13 (by kernel_rfl) rfl #[.int .i64 (Go.bits .or .i64 (Int.tmod (wrap64 (a0)) 64) 8)] rfl (by (try simp only [List.map_toArray, List.map_cons, List.map_nil]); first | done | rfl | (simp only [List.length_drop, List.length_take]; rfl)) ?_; (with_reducible refine (flags_Class.calls k (Go.bits .or .i64 (Int.tmod (wrap64 (a0)) 64) 8) t147 _ A4.out).mono ?_); rintro e w' ⟨rfl, ⟨nd, rfl⟩⟩; refine ⟨_, rfl, ?_⟩))
      go_meet
      case rel => exact ⟨_, (true), (by first | rfl | (simp; done) | (simp [*]; done)), H', ⟨by first | omega | exact Nat.le_refl _⟩, ⟨by repeat (first | (with_reducible first | exact HB.out | apply below_alloc | apply pw_below_drewN | apply below_drew1) | exact HB.out)⟩⟩
  case rest =>
    clear HC3
    try clear c1
    try clear p2
    try clear c5
    try clear c5b0
    try clear c5b1
    try clear c6
    try clear p6
    try clear c7
    try clear c7b0
    try clear c7b1
    obtain ⟨kq, x28_2, rfl, HA, HJ2, HB⟩ := hcut
    cases kq with
    | zero => exact absurd HA.out (by simp [rampartlaw10_FlagsPush.j0])
    | succ kj2 =>
      have H := HA.out
      clear HA
      simp only [rampartlaw10_FlagsPush.j0] at H
      by_cases c9 : x28_2 = true
      · subst c9
        have H1 : (some false) = some r := by rw [if_pos rfl] at H; exact H
        clear H
        have H := H1
        clear H1
        obtain rfl := Option.some.inj H
        go_wp2
        go_ret
        exact ⟨by first | rfl | (simp [errW_none, errW_some] <;> rfl) | (simp [*, errW_none, errW_some] <;> rfl), by repeat (first | (with_reducible first | exact HB.out | apply below_alloc | apply pw_below_drewN | apply below_drew1) | exact HB.out)⟩
      · replace c9 := Bool.eq_false_iff.mpr c9
        subst c9
        have H1 : (if (Go.bits .and .i64 (Int.tmod (wrap64 (a0)) 64) 4) = 0 then (if t146 = 5 then (some false) else (if t146 = 3 then (if (Go.bits .and .i64 (Int.tmod (wrap64 (a0)) 64) 16) = 0 then (some false) else ((rampartlaw10_known.f kj2).bind fun t150 => (some t150))) else (if t146 = 4 then (if (Go.bits .and .i64 (Int.tmod (wrap64 (a0)) 64) 16) = 0 then (some false) else ((rampartlaw10_known.f kj2).bind fun t151 => (some t151))) else (if t146 = 2 then (if (Go.bits .and .i64 (Int.tmod (wrap64 (a0)) 64) 16) = 0 then (some false) else ((rampartlaw10_known.f kj2).bind fun t152 => (some t152))) else ((rampartlaw10_known.f kj2).bind fun t153 => (some t153)))))) else (if ((t146 == 5) == ((Go.bits .and .i64 (Int.tmod (wrap64 (a0)) 64) 3) == 0)) = true then ((rampartlaw10_known.f kj2).bind fun t154 => (some t154)) else (some false))) = some r := by rw [if_neg (show ¬ (false = true) by decide)] at H; exact H
        clear H
        have H := H1
        clear H1
        by_cases c10 : (Go.bits .and .i64 (Int.tmod (wrap64 (a0)) 64) 4) = 0
        · rw [if_pos c10] at H
          have c10b0 : ((Go.bits .and .i64 (Int.tmod (wrap64 (a0)) 64) 4) == 0) = true := beq_iff_eq.mpr c10
          have c10b1 : ((Go.bits .and .i64 (Int.tmod (wrap64 (a0)) 64) 4) != 0) = false := bne_eq_false_iff_eq.mpr c10
          clear c10
          by_cases c11 : t146 = 5
          · rw [if_pos c11] at H
            have c11b0 : (t146 == 5) = true := beq_iff_eq.mpr c11
            have c11b1 : (t146 != 5) = false := bne_eq_false_iff_eq.mpr c11
            clear c11
            obtain rfl := Option.some.inj H
            go_wp2
            go_ret
            exact ⟨by first | rfl | (simp [errW_none, errW_some] <;> rfl) | (simp [*, errW_none, errW_some] <;> rfl), by repeat (first | (with_reducible first | exact HB.out | apply below_alloc | apply pw_below_drewN | apply below_drew1) | exact HB.out)⟩
          · rw [if_neg c11] at H
            have c11b0 : (t146 == 5) = false := beq_eq_false_iff_ne.mpr c11
            have c11b1 : (t146 != 5) = true := bne_iff_ne.mpr c11
            by_cases c12 : t146 = 3
            · rw [if_pos c12] at H
              have c12b0 : (t146 == 3) = true := beq_iff_eq.mpr c12
              have c12b1 : (t146 != 3) = false := bne_eq_false_iff_eq.mpr c12
              clear c12
              by_cases c13 : (Go.bits .and .i64 (Int.tmod (wrap64 (a0)) 64) 16) = 0
              · rw [if_pos c13] at H
                have c13b0 : ((Go.bits .and .i64 (Int.tmod (wrap64 (a0)) 64) 16) == 0) = true := beq_iff_eq.mpr c13
                have c13b1 : ((Go.bits .and .i64 (Int.tmod (wrap64 (a0)) 64) 16) != 0) = false := bne_eq_false_iff_eq.mpr c13
                clear c13
                obtain rfl := Option.some.inj H
                go_wp2
                go_ret
                exact ⟨by first | rfl | (simp [errW_none, errW_some] <;> rfl) | (simp [*, errW_none, errW_some] <;> rfl), by repeat (first | (with_reducible first | exact HB.out | apply below_alloc | apply pw_below_drewN | apply below_drew1) | exact HB.out)⟩
              · rw [if_neg c13] at H
                have c13b0 : ((Go.bits .and .i64 (Int.tmod (wrap64 (a0)) 64) 16) == 0) = false := beq_eq_false_iff_ne.mpr c13
                have c13b1 : ((Go.bits .and .i64 (Int.tmod (wrap64 (a0)) 64) 16) != 0) = true := bne_iff_ne.mpr c13
                replace H := Option.bind_eq_some_iff.mp H
                obtain ⟨t150, A140, H⟩ := H
                replace H : (some t150) = some r := H
                have A14 := Aside0.mk A140
                clear A140
                obtain rfl := Option.some.inj H
                go_wp2_with (first | (go_at_call 17; (with_reducible refine (rampartlaw10_known.calls kj2  t150 _ A14.out).mono ?_); rintro e w15 ⟨rfl, hb⟩; have n0_ := Aside0.mk (below_step (by repeat (first | (with_reducible first | exact HB.out | apply below_alloc | apply pw_below_drewN | apply below_drew1) | exact HB.out)) hb); clear HB; have HB := n0_; clear n0_; (try clear hb); (try clear hb2); (try clear hk); (try clear hi)))
                go_ret
                exact ⟨by first | rfl | (simp [errW_none, errW_some] <;> rfl) | (simp [*, errW_none, errW_some] <;> rfl), by repeat (first | (with_reducible first | exact HB.out | apply below_alloc | apply pw_below_drewN | apply below_drew1) | exact HB.out)⟩
            · rw [if_neg c12] at H
              have c12b0 : (t146 == 3) = false := beq_eq_false_iff_ne.mpr c12
              have c12b1 : (t146 != 3) = true := bne_iff_ne.mpr c12
              by_cases c16 : t146 = 4
              · rw [if_pos c16] at H
                have c16b0 : (t146 == 4) = true := beq_iff_eq.mpr c16
                have c16b1 : (t146 != 4) = false := bne_eq_false_iff_eq.mpr c16
                clear c16
                by_cases c17 : (Go.bits .and .i64 (Int.tmod (wrap64 (a0)) 64) 16) = 0
                · rw [if_pos c17] at H
                  have c17b0 : ((Go.bits .and .i64 (Int.tmod (wrap64 (a0)) 64) 16) == 0) = true := beq_iff_eq.mpr c17
                  have c17b1 : ((Go.bits .and .i64 (Int.tmod (wrap64 (a0)) 64) 16) != 0) = false := bne_eq_false_iff_eq.mpr c17
                  clear c17
                  obtain rfl := Option.some.inj H
                  go_wp2
                  go_ret
                  exact ⟨by first | rfl | (simp [errW_none, errW_some] <;> rfl) | (simp [*, errW_none, errW_some] <;> rfl), by repeat (first | (with_reducible first | exact HB.out | apply below_alloc | apply pw_below_drewN | apply below_drew1) | exact HB.out)⟩
                · rw [if_neg c17] at H
                  have c17b0 : ((Go.bits .and .i64 (Int.tmod (wrap64 (a0)) 64) 16) == 0) = false := beq_eq_false_iff_ne.mpr c17
                  have c17b1 : ((Go.bits .and .i64 (Int.tmod (wrap64 (a0)) 64) 16) != 0) = true := bne_iff_ne.mpr c17
                  replace H := Option.bind_eq_some_iff.mp H
                  obtain ⟨t151, A180, H⟩ := H
                  replace H : (some t151) = some r := H
                  have A18 := Aside0.mk A180
                  clear A180
                  obtain rfl := Option.some.inj H
                  go_wp2_with (first | (go_at_call 17; (with_reducible refine (rampartlaw10_known.calls kj2  t151 _ A18.out).mono ?_); rintro e w19 ⟨rfl, hb⟩; have n0_ := Aside0.mk (below_step (by repeat (first | (with_reducible first | exact HB.out | apply below_alloc | apply pw_below_drewN | apply below_drew1) | exact HB.out)) hb); clear HB; have HB := n0_; clear n0_; (try clear hb); (try clear hb2); (try clear hk); (try clear hi)))
                  go_ret
                  exact ⟨by first | rfl | (simp [errW_none, errW_some] <;> rfl) | (simp [*, errW_none, errW_some] <;> rfl), by repeat (first | (with_reducible first | exact HB.out | apply below_alloc | apply pw_below_drewN | apply below_drew1) | exact HB.out)⟩
              · rw [if_neg c16] at H
                have c16b0 : (t146 == 4) = false := beq_eq_false_iff_ne.mpr c16
                have c16b1 : (t146 != 4) = true := bne_iff_ne.mpr c16
                by_cases c20 : t146 = 2
                · rw [if_pos c20] at H
                  have c20b0 : (t146 == 2) = true := beq_iff_eq.mpr c20
                  have c20b1 : (t146 != 2) = false := bne_eq_false_iff_eq.mpr c20
                  clear c20
                  by_cases c21 : (Go.bits .and .i64 (Int.tmod (wrap64 (a0)) 64) 16) = 0
                  · rw [if_pos c21] at H
                    have c21b0 : ((Go.bits .and .i64 (Int.tmod (wrap64 (a0)) 64) 16) == 0) = true := beq_iff_eq.mpr c21
                    have c21b1 : ((Go.bits .and .i64 (Int.tmod (wrap64 (a0)) 64) 16) != 0) = false := bne_eq_false_iff_eq.mpr c21
                    clear c21
                    obtain rfl := Option.some.inj H
                    go_wp2
                    go_ret
                    exact ⟨by first | rfl | (simp [errW_none, errW_some] <;> rfl) | (simp [*, errW_none, errW_some] <;> rfl), by repeat (first | (with_reducible first | exact HB.out | apply below_alloc | apply pw_below_drewN | apply below_drew1) | exact HB.out)⟩
                  · rw [if_neg c21] at H
                    have c21b0 : ((Go.bits .and .i64 (Int.tmod (wrap64 (a0)) 64) 16) == 0) = false := beq_eq_false_iff_ne.mpr c21
                    have c21b1 : ((Go.bits .and .i64 (Int.tmod (wrap64 (a0)) 64) 16) != 0) = true := bne_iff_ne.mpr c21
                    replace H := Option.bind_eq_some_iff.mp H
                    obtain ⟨t152, A220, H⟩ := H
                    replace H : (some t152) = some r := H
                    have A22 := Aside0.mk A220
                    clear A220
                    obtain rfl := Option.some.inj H
                    go_wp2_with (first | (go_at_call 17; (with_reducible refine (rampartlaw10_known.calls kj2  t152 _ A22.out).mono ?_); rintro e w23 ⟨rfl, hb⟩; have n0_ := Aside0.mk (below_step (by repeat (first | (with_reducible first | exact HB.out | apply below_alloc | apply pw_below_drewN | apply below_drew1) | exact HB.out)) hb); clear HB; have HB := n0_; clear n0_; (try clear hb); (try clear hb2); (try clear hk); (try clear hi)))
                    go_ret
                    exact ⟨by first | rfl | (simp [errW_none, errW_some] <;> rfl) | (simp [*, errW_none, errW_some] <;> rfl), by repeat (first | (with_reducible first | exact HB.out | apply below_alloc | apply pw_below_drewN | apply below_drew1) | exact HB.out)⟩
                · rw [if_neg c20] at H
                  have c20b0 : (t146 == 2) = false := beq_eq_false_iff_ne.mpr c20
                  have c20b1 : (t146 != 2) = true := bne_iff_ne.mpr c20
                  replace H := Option.bind_eq_some_iff.mp H
                  obtain ⟨t153, A240, H⟩ := H
                  replace H : (some t153) = some r := H
                  have A24 := Aside0.mk A240
                  clear A240
                  obtain rfl := Option.some.inj H
                  go_wp2_with (first | (go_at_call 17; (with_reducible refine (rampartlaw10_known.calls kj2  t153 _ A24.out).mono ?_); rintro e w25 ⟨rfl, hb⟩; have n0_ := Aside0.mk (below_step (by repeat (first | (with_reducible first | exact HB.out | apply below_alloc | apply pw_below_drewN | apply below_drew1) | exact HB.out)) hb); clear HB; have HB := n0_; clear n0_; (try clear hb); (try clear hb2); (try clear hk); (try clear hi)))
                  go_ret
                  exact ⟨by first | rfl | (simp [errW_none, errW_some] <;> rfl) | (simp [*, errW_none, errW_some] <;> rfl), by repeat (first | (with_reducible first | exact HB.out | apply below_alloc | apply pw_below_drewN | apply below_drew1) | exact HB.out)⟩
        · rw [if_neg c10] at H
          have c10b0 : ((Go.bits .and .i64 (Int.tmod (wrap64 (a0)) 64) 4) == 0) = false := beq_eq_false_iff_ne.mpr c10
          have c10b1 : ((Go.bits .and .i64 (Int.tmod (wrap64 (a0)) 64) 4) != 0) = true := bne_iff_ne.mpr c10
          by_cases c26 : ((t146 == 5) == ((Go.bits .and .i64 (Int.tmod (wrap64 (a0)) 64) 3) == 0)) = true
          · rw [if_pos c26] at H
            have c26b0 : ((t146 == 5) == ((Go.bits .and .i64 (Int.tmod (wrap64 (a0)) 64) 3) == 0)) = true := c26
            (try (have c26b1 : decide ((t146 == 5) = ((Go.bits .and .i64 (Int.tmod (wrap64 (a0)) 64) 3) == 0)) = true := by simpa using c26))
            (try (have c26b2 : ((t146 == 5) == ((Go.bits .and .i64 (Int.tmod (wrap64 (a0)) 64) 3) == 0)) = true := by simpa using c26))
            clear c26
            replace H := Option.bind_eq_some_iff.mp H
            obtain ⟨t154, A270, H⟩ := H
            replace H : (some t154) = some r := H
            have A27 := Aside0.mk A270
            clear A270
            obtain rfl := Option.some.inj H
            go_wp2_with (first | (go_at_call 17; (with_reducible refine (rampartlaw10_known.calls kj2  t154 _ A27.out).mono ?_); rintro e w28 ⟨rfl, hb⟩; have n0_ := Aside0.mk (below_step (by repeat (first | (with_reducible first | exact HB.out | apply below_alloc | apply pw_below_drewN | apply below_drew1) | exact HB.out)) hb); clear HB; have HB := n0_; clear n0_; (try clear hb); (try clear hb2); (try clear hk); (try clear hi)))
            go_ret
            exact ⟨by first | rfl | (simp [errW_none, errW_some] <;> rfl) | (simp [*, errW_none, errW_some] <;> rfl), by repeat (first | (with_reducible first | exact HB.out | apply below_alloc | apply pw_below_drewN | apply below_drew1) | exact HB.out)⟩
          · rw [if_neg c26] at H
            have c26b0 : ((t146 == 5) == ((Go.bits .and .i64 (Int.tmod (wrap64 (a0)) 64) 3) == 0)) = false := by simpa using c26
            (try (have c26b1 : decide ((t146 == 5) = ((Go.bits .and .i64 (Int.tmod (wrap64 (a0)) 64) 3) == 0)) = false := by simpa using c26))
            (try (have c26b2 : ((t146 == 5) == ((Go.bits .and .i64 (Int.tmod (wrap64 (a0)) 64) 3) == 0)) = false := by simpa using c26))
            (try (have c26b3 : ¬ ((t146 == 5) = ((Go.bits .and .i64 (Int.tmod (wrap64 (a0)) 64) 3) == 0)) := by simpa using c26))
            clear c26
            obtain rfl := Option.some.inj H
            go_wp2
            go_ret
            exact ⟨by first | rfl | (simp [errW_none, errW_some] <;> rfl) | (simp [*, errW_none, errW_some] <;> rfl), by repeat (first | (with_reducible first | exact HB.out | apply below_alloc | apply pw_below_drewN | apply below_drew1) | exact HB.out)⟩

/-- THE ONE PURE STATEMENT of rampartlaw10_FlagsPush: yours. -/
def rampartlaw10_FlagsPush.Pure : Prop := ∀ (a0 : Int), (Lit.int .u8 a0).wf = true → ∃ k, rampartlaw10_FlagsPush.f k a0 = some true
theorem rampartlaw10_FlagsPush.walk (P : rampartlaw10_FlagsPush.Pure) (a0 : Int) (w : World) (w0 : (Lit.int .u8 a0).wf = true) :
    Calls Try.prog 6 #[.int .u8 a0] w fun e w' => e = .returned (.bool true) ∧ Below w.heap.size w w' := by
  obtain ⟨k, h⟩ := P a0 w0
  refine (rampartlaw10_FlagsPush.calls k a0 true w h).mono ?_
  rintro e w' ⟨rfl, hd⟩
  exact ⟨rfl, hd⟩

end Go.Proofs.Ytaemgicmbnmecaa.PAll
