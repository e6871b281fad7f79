-- Written by a program of this work (wip/mkprint.py, wip/myprint.sh) out of the translation; not trusted: Lean checks it.
import Derived.Test.YtaemgicmbnmecaaPAllx0
import Derived.Test.YtaemgicmbnmecaaPAllx11
namespace Go.Proofs.Ytaemgicmbnmecaa.PAll
open Go.RowKit Go.Proofs.YtaemgicmbnmecaaW.PrintWords Go.Proofs.YtaemgicmbnmecaaW.PrintLast Go.Proofs.YtaemgicmbnmecaaW.PrintMore
attribute [local go_sem] max2_int min2_int max_two min_two max_three min_three max_four min_four   -- for this text's walks alone
set_option linter.unusedVariables false
set_option linter.unusedSimpArgs false

/-! ### rampartref19_Next: function 23 -/
def rampartref19_Next.j0 : Nat → Int → Bool → Int → Bool → Option (Int × Bool)
  | 0, _, _, _, _ => none
  | k + 1, x0, x1, x2, x23 => if x23 = true then (some (x0, false)) else (if x1 = true then ((rampartref19_row.f x0).bind fun t200 => (if 0 ≤ (wrap64 ((wrap64 (x2 - 1)) + 4)) then (if (wrap64 ((wrap64 (x2 - 1)) + 4)) < (t200.length : Int) then (if (rd t200 (wrap64 ((wrap64 (x2 - 1)) + 4))) < 0 then (some (x0, false)) else (some (rd t200 (wrap64 ((wrap64 (x2 - 1)) + 4)), true))) else (none)) else (none))) else ((rampartref19_row.f x0).bind fun t204 => (if 0 ≤ (wrap64 (x2 - 1)) then (if (wrap64 (x2 - 1)) < (t204.length : Int) then (if (rd t204 (wrap64 (x2 - 1))) < 0 then (some (x0, false)) else (some (rd t204 (wrap64 (x2 - 1)), true))) else (none)) else (none))))
def rampartref19_Next.f (k : Nat) (a0 : Int) (a1 : Bool) (a2 : Int) : Option (Int × Bool) := if a0 < 0 then (rampartref19_Next.j0 k a0 a1 a2 true) else (if a0 > 9 then (rampartref19_Next.j0 k a0 a1 a2 true) else (if a2 < 1 then (rampartref19_Next.j0 k a0 a1 a2 true) else (rampartref19_Next.j0 k a0 a1 a2 (decide (a2 > 4)))))
theorem rampartref19_Next.mono_l : ∀ k, (∀ y0 y1 y2 y3, LeO (rampartref19_Next.j0 k y0 y1 y2 y3) (rampartref19_Next.j0 (k + 1) y0 y1 y2 y3))
  | 0 => fun _ _ _ _ r h => by simp [rampartref19_Next.j0] at h
  | k + 1 => by
    have ih0 := rampartref19_Next.mono_l k
    · intro y0 y1 y2 y3
      unfold rampartref19_Next.j0
      repeat' first
      | (with_reducible exact ih0 _ _ _ _)
      | (with_reducible exact LeO.refl _)
      | (with_reducible exact LeO.none _)
      | (with_reducible refine LeO.ite ?_ ?_)
      | (with_reducible refine LeO.bind ?_ (fun _ => ?_))
      | exact ih0 _ _ _ _
      | exact LeO.none _
      | refine LeO.ite ?_ ?_
      | refine LeO.bind ?_ (fun _ => ?_)
theorem rampartref19_Next.mono : ∀ a0 a1 a2 k, LeO (rampartref19_Next.f k a0 a1 a2) (rampartref19_Next.f (k + 1) a0 a1 a2) := by
  intro a0 a1 a2 k
  have ih0 := rampartref19_Next.mono_l k
  unfold rampartref19_Next.f
  repeat' first
      | (with_reducible exact ih0 _ _ _ _)
      | (with_reducible exact LeO.refl _)
      | (with_reducible exact LeO.none _)
      | (with_reducible refine LeO.ite ?_ ?_)
      | (with_reducible refine LeO.bind ?_ (fun _ => ?_))
      | exact ih0 _ _ _ _
      | exact LeO.none _
      | refine LeO.ite ?_ ?_
      | refine LeO.bind ?_ (fun _ => ?_)
set_option maxHeartbeats 8000000 in
set_option maxRecDepth 100000 in
theorem rampartref19_Next.calls (k : Nat) (a0 : Int) (a1 : Bool) (a2 : Int) (r1 : Int) (r2 : Bool) (w : World) (h : rampartref19_Next.f k a0 a1 a2 = some (r1, r2)) :
    Calls Try.prog 23 #[.int .i64 a0, .bool a1, .int .i64 a2] w fun e w' => e = .returned (.tuple #[.int .i64 r1, .bool r2]) ∧ Below w.heap.size w w' := by
  have HB := Aside0.mk (Below.refl w.heap.size w)
  have H : (if a0 < 0 then (rampartref19_Next.j0 k a0 a1 a2 true) else (if a0 > 9 then (rampartref19_Next.j0 k a0 a1 a2 true) else (if a2 < 1 then (rampartref19_Next.j0 k a0 a1 a2 true) else (rampartref19_Next.j0 k a0 a1 a2 (decide (a2 > 4)))))) = some (r1, r2) := h
  clear h
  have HC4 := Aside0.mk H
  clear H
  go_enter Try.func23, Try.ntmps23
  go_upto_region 1 with (fail)
  go_cut [23] (fun v23 wc => ∃ (kq : Nat) (x23_3 : Bool), v23 = .bool x23_3 ∧ Aside0 (rampartref19_Next.j0 kq a0 a1 a2 x23_3 = some (r1, r2)) ∧ Aside0 (kq ≤ k) ∧ Aside0 (Below w.heap.size w wc))
  case first =>
    have H := HC4.out
    clear HC4
    by_cases c5 : a0 < 0
    · rw [if_pos c5] at H
      have c5b0 : decide (a0 < 0) = true := decide_eq_true c5
      clear c5
      (first | rw [c5b0] | (simp only [i64_w, i32_w]; rw [c5b0]) | skip)
      have H' := Aside0.mk H
      clear H
      go_wp2
      go_meet
      case rel => exact ⟨_, (true), (by first | rfl | (simp; done) | (simp [*]; done)), H', ⟨by first | omega | exact Nat.le_refl _⟩, ⟨by repeat (first | (with_reducible first | exact HB.out | apply below_alloc | apply pw_below_drewN | apply below_drew1) | exact HB.out)⟩⟩
    · rw [if_neg c5] at H
      have c5b0 : decide (a0 < 0) = false := decide_eq_false c5
      clear c5
      (first | rw [c5b0] | (simp only [i64_w, i32_w]; rw [c5b0]) | skip)
      by_cases c6 : a0 > 9
      · rw [if_pos c6] at H
        have c6b0 : decide (9 < a0) = true := decide_eq_true c6
        clear c6
        have H' := Aside0.mk H
        clear H
        go_wp2
        go_meet
        case rel => exact ⟨_, (true), (by first | rfl | (simp; done) | (simp [*]; done)), H', ⟨by first | omega | exact Nat.le_refl _⟩, ⟨by repeat (first | (with_reducible first | exact HB.out | apply below_alloc | apply pw_below_drewN | apply below_drew1) | exact HB.out)⟩⟩
      · rw [if_neg c6] at H
        have c6b0 : decide (9 < a0) = false := decide_eq_false c6
        clear c6
        by_cases c7 : a2 < 1
        · rw [if_pos c7] at H
          have c7b0 : decide (a2 < 1) = true := decide_eq_true c7
          clear c7
          have H' := Aside0.mk H
          clear H
          go_wp2
          go_meet
          case rel => exact ⟨_, (true), (by first | rfl | (simp; done) | (simp [*]; done)), H', ⟨by first | omega | exact Nat.le_refl _⟩, ⟨by repeat (first | (with_reducible first | exact HB.out | apply below_alloc | apply pw_below_drewN | apply below_drew1) | exact HB.out)⟩⟩
        · rw [if_neg c7] at H
          have c7b0 : decide (a2 < 1) = false := decide_eq_false c7
          clear c7
          have H' := Aside0.mk H
          clear H
          go_wp2
          go_meet
          case rel => exact ⟨_, (decide (a2 > 4)), (by first | rfl | (simp; done) | (simp [*]; done)), H', ⟨by first | omega | exact Nat.le_refl _⟩, ⟨by repeat (first | (with_reducible first | exact HB.out | apply below_alloc | apply pw_below_drewN | apply below_drew1) | exact HB.out)⟩⟩
  case rest =>
    clear HC4
    try clear c2
    try clear p2
    try clear c5
    try clear c5b0
    try clear c6
    try clear c6b0
    try clear c7
    try clear c7b0
    obtain ⟨kq, x23_3, rfl, HA, HJ3, HB⟩ := hcut
    cases kq with
    | zero => exact absurd HA.out (by simp [rampartref19_Next.j0])
    | succ kj3 =>
      have H := HA.out
      clear HA
      simp only [rampartref19_Next.j0] at H
      by_cases c8 : x23_3 = true
      · subst c8
        have H1 : (some (a0, false)) = some (r1, r2) := by rw [if_pos rfl] at H; exact H
        clear H
        have H := H1
        clear H1
        simp only [Option.some.injEq, Prod.mk.injEq] at H
        obtain ⟨rfl, rfl⟩ := H
        go_wp2
        go_ret2
        exact ⟨by first | rfl | (simp [errW_none, errW_some] <;> rfl) | (simp [*, errW_none, errW_some] <;> rfl), by repeat (first | (with_reducible first | exact HB.out | apply below_alloc | apply pw_below_drewN | apply below_drew1) | exact HB.out)⟩
      · replace c8 := Bool.eq_false_iff.mpr c8
        subst c8
        have H1 : (if a1 = true then ((rampartref19_row.f a0).bind fun t200 => (if 0 ≤ (wrap64 ((wrap64 (a2 - 1)) + 4)) then (if (wrap64 ((wrap64 (a2 - 1)) + 4)) < (t200.length : Int) then (if (rd t200 (wrap64 ((wrap64 (a2 - 1)) + 4))) < 0 then (some (a0, false)) else (some (rd t200 (wrap64 ((wrap64 (a2 - 1)) + 4)), true))) else (none)) else (none))) else ((rampartref19_row.f a0).bind fun t204 => (if 0 ≤ (wrap64 (a2 - 1)) then (if (wrap64 (a2 - 1)) < (t204.length : Int) then (if (rd t204 (wrap64 (a2 - 1))) < 0 then (some (a0, false)) else (some (rd t204 (wrap64 (a2 - 1)), true))) else (none)) else (none)))) = some (r1, r2) := by rw [if_neg (show ¬ (false = true) by decide)] at H; exact H
        clear H
        have H := H1
        clear H1
        by_cases c9 : a1 = true
        · subst c9
          have H1 : ((rampartref19_row.f a0).bind fun t200 => (if 0 ≤ (wrap64 ((wrap64 (a2 - 1)) + 4)) then (if (wrap64 ((wrap64 (a2 - 1)) + 4)) < (t200.length : Int) then (if (rd t200 (wrap64 ((wrap64 (a2 - 1)) + 4))) < 0 then (some (a0, false)) else (some (rd t200 (wrap64 ((wrap64 (a2 - 1)) + 4)), true))) else (none)) else (none))) = some (r1, r2) := by rw [if_pos rfl] at H; exact H
          clear H
          have H := H1
          clear H1
          replace H := Option.bind_eq_some_iff.mp H
          obtain ⟨t200, A100, H⟩ := H
          replace H : (if 0 ≤ (wrap64 ((wrap64 (a2 - 1)) + 4)) then (if (wrap64 ((wrap64 (a2 - 1)) + 4)) < (t200.length : Int) then (if (rd t200 (wrap64 ((wrap64 (a2 - 1)) + 4))) < 0 then (some (a0, false)) else (some (rd t200 (wrap64 ((wrap64 (a2 - 1)) + 4)), true))) else (none)) else (none)) = some (r1, r2) := H
          have A10 := Aside0.mk A100
          clear A100
          obtain ⟨ji11, hji11⟩ : ∃ j_ : Int, (wrap64 ((wrap64 (a2 - 1)) + 4)) = j_ := ⟨_, rfl⟩
          replace H : (if 0 ≤ (ji11) then (if (ji11) < (t200.length : Int) then (if (rd t200 (ji11)) < 0 then (some (a0, false)) else (some (rd t200 (ji11), true))) else (none)) else (none)) = some (r1, r2) := by first | (rw [hji11] at H; exact H) | (simp only [hji11] at H ⊢; exact H)
          (try rw [hji11] at A10)
          have hji11w : (IntKind.i64.wrap ((wrap64 (a2 - 1)) + 4)) = ji11 := (i64_w _).trans hji11
          by_cases c12 : 0 ≤ (ji11)
          · rw [if_pos c12] at H
            have c12b0 : decide (0 ≤ (ji11)) = true := decide_eq_true c12
            clear c12
            by_cases c13 : (ji11) < (t200.length : Int)
            · rw [if_pos c13] at H
              have c13b0 : decide ((ji11) < (t200.length : Int)) = true := decide_eq_true c13
              clear c13
              by_cases c14 : (rd t200 (ji11)) < 0
              · rw [if_pos c14] at H
                have c14b0 : decide ((rd t200 (ji11)) < 0) = true := decide_eq_true c14
                clear c14
                simp only [Option.some.injEq, Prod.mk.injEq] at H
                obtain ⟨rfl, rfl⟩ := H
                go_wp2_with (first | ((with_reducible refine gate_callee (f := 37) rfl ?_); refine goesL_ (some 31) rfl rfl Try.func37 (by kernel_rfl) rfl #[.int .i64 a0] rfl (by (try simp only [List.map_toArray, List.map_cons, List.map_nil]); first | done | rfl | (simp only [List.length_drop, List.length_take]; rfl)) ?_; (with_reducible refine (rampartref19_row.calls a0 t200 _ A10.out).mono ?_); rintro e w15 ⟨v201, rfl, ho0, hb⟩; refine ⟨_, rfl, ?_⟩; have n0_ := Aside0.mk (Kd.V_lower (Kd.V_mono (ok' := fun k_ => True) ho0 (fun k_ hk_ => trivial)) (below_size (by repeat (first | (with_reducible first | exact HB.out | apply below_alloc | apply pw_below_drewN | apply below_drew1) | exact HB.out)))); have n1_ := Aside0.mk (below_step (by repeat (first | (with_reducible first | exact HB.out | apply below_alloc | apply pw_below_drewN | apply below_drew1) | exact HB.out)) hb); clear HB; have HO202 := n0_; have HB := n1_; clear n0_ n1_; (try clear hb); (try clear hb2); (try clear hk); (try clear hi); (try clear ho0); obtain ⟨Ao16, co16, eo16⟩ := Kd.V_slice HO202.out; subst eo16; have p203 : 0 ≤ ((ji11) : Int) := of_decide_eq_true (by first | (with_reducible assumption) | assumption); have q203 : (ji11) < (t200.length : Int) := of_decide_eq_true (by first | (with_reducible assumption) | assumption); obtain ⟨ad203, e203, hx203_0⟩ := Kd.at_int (Kd.V_reads' HO202.out).2.2 (ji11) p203 q203; cases e203; replace p203 := eq_true p203; replace q203 := eq_true q203))
                go_ret2
                exact ⟨by first | rfl | (simp [errW_none, errW_some] <;> rfl) | (simp only [← hji11]; first | rfl | (simp [errW_none, errW_some] <;> rfl)) | (simp [*, errW_none, errW_some] <;> rfl), by repeat (first | (with_reducible first | exact HB.out | apply below_alloc | apply pw_below_drewN | apply below_drew1) | exact HB.out)⟩
              · rw [if_neg c14] at H
                have c14b0 : decide ((rd t200 (ji11)) < 0) = false := decide_eq_false c14
                clear c14
                simp only [Option.some.injEq, Prod.mk.injEq] at H
                obtain ⟨rfl, rfl⟩ := H
                go_wp2_with (first | ((with_reducible refine gate_callee (f := 37) rfl ?_); refine goesL_ (some 31) rfl rfl Try.func37 (by kernel_rfl) rfl #[.int .i64 a0] rfl (by (try simp only [List.map_toArray, List.map_cons, List.map_nil]); first | done | rfl | (simp only [List.length_drop, List.length_take]; rfl)) ?_; (with_reducible refine (rampartref19_row.calls a0 t200 _ A10.out).mono ?_); rintro e w17 ⟨v201, rfl, ho0, hb⟩; refine ⟨_, rfl, ?_⟩; have n0_ := Aside0.mk (Kd.V_lower (Kd.V_mono (ok' := fun k_ => True) ho0 (fun k_ hk_ => trivial)) (below_size (by repeat (first | (with_reducible first | exact HB.out | apply below_alloc | apply pw_below_drewN | apply below_drew1) | exact HB.out)))); have n1_ := Aside0.mk (below_step (by repeat (first | (with_reducible first | exact HB.out | apply below_alloc | apply pw_below_drewN | apply below_drew1) | exact HB.out)) hb); clear HB; have HO202 := n0_; have HB := n1_; clear n0_ n1_; (try clear hb); (try clear hb2); (try clear hk); (try clear hi); (try clear ho0); obtain ⟨Ao18, co18, eo18⟩ := Kd.V_slice HO202.out; subst eo18; have p203 : 0 ≤ ((ji11) : Int) := of_decide_eq_true (by first | (with_reducible assumption) | assumption); have q203 : (ji11) < (t200.length : Int) := of_decide_eq_true (by first | (with_reducible assumption) | assumption); obtain ⟨ad203, e203, hx203_0⟩ := Kd.at_int (Kd.V_reads' HO202.out).2.2 (ji11) p203 q203; cases e203; replace p203 := eq_true p203; replace q203 := eq_true q203))
                go_ret2
                exact ⟨by first | rfl | (simp [errW_none, errW_some] <;> rfl) | (simp only [← hji11]; first | rfl | (simp [errW_none, errW_some] <;> rfl)) | (simp [*, errW_none, errW_some] <;> rfl), by repeat (first | (with_reducible first | exact HB.out | apply below_alloc | apply pw_below_drewN | apply below_drew1) | exact HB.out)⟩
            · rw [if_neg c13] at H
              exact absurd H (by simp)
          · rw [if_neg c12] at H
            exact absurd H (by simp)
        · replace c9 := Bool.eq_false_iff.mpr c9
          subst c9
          have H1 : ((rampartref19_row.f a0).bind fun t204 => (if 0 ≤ (wrap64 (a2 - 1)) then (if (wrap64 (a2 - 1)) < (t204.length : Int) then (if (rd t204 (wrap64 (a2 - 1))) < 0 then (some (a0, false)) else (some (rd t204 (wrap64 (a2 - 1)), true))) else (none)) else (none))) = some (r1, r2) := by rw [if_neg (show ¬ (false = true) by decide)] at H; exact H
          clear H
          have H := H1
          clear H1
          replace H := Option.bind_eq_some_iff.mp H
          obtain ⟨t204, A190, H⟩ := H
          replace H : (if 0 ≤ (wrap64 (a2 - 1)) then (if (wrap64 (a2 - 1)) < (t204.length : Int) then (if (rd t204 (wrap64 (a2 - 1))) < 0 then (some (a0, false)) else (some (rd t204 (wrap64 (a2 - 1)), true))) else (none)) else (none)) = some (r1, r2) := H
          have A19 := Aside0.mk A190
          clear A190
          obtain ⟨ji20, hji20⟩ : ∃ j_ : Int, (wrap64 (a2 - 1)) = j_ := ⟨_, rfl⟩
          replace H : (if 0 ≤ (ji20) then (if (ji20) < (t204.length : Int) then (if (rd t204 (ji20)) < 0 then (some (a0, false)) else (some (rd t204 (ji20), true))) else (none)) else (none)) = some (r1, r2) := by first | (rw [hji20] at H; exact H) | (simp only [hji20] at H ⊢; exact H)
          (try rw [hji20] at A19)
          have hji20w : (IntKind.i64.wrap (a2 - 1)) = ji20 := (i64_w _).trans hji20
          by_cases c21 : 0 ≤ (ji20)
          · rw [if_pos c21] at H
            have c21b0 : decide (0 ≤ (ji20)) = true := decide_eq_true c21
            clear c21
            by_cases c22 : (ji20) < (t204.length : Int)
            · rw [if_pos c22] at H
              have c22b0 : decide ((ji20) < (t204.length : Int)) = true := decide_eq_true c22
              clear c22
              by_cases c23 : (rd t204 (ji20)) < 0
              · rw [if_pos c23] at H
                have c23b0 : decide ((rd t204 (ji20)) < 0) = true := decide_eq_true c23
                clear c23
                simp only [Option.some.injEq, Prod.mk.injEq] at H
                obtain ⟨rfl, rfl⟩ := H
                go_wp2_with (first | ((with_reducible refine gate_callee (f := 37) rfl ?_); refine goesL_ (some 31) rfl rfl Try.func37 (by kernel_rfl) rfl #[.int .i64 a0] rfl (by (try simp only [List.map_toArray, List.map_cons, List.map_nil]); first | done | rfl | (simp only [List.length_drop, List.length_take]; rfl)) ?_; (with_reducible refine (rampartref19_row.calls a0 t204 _ A19.out).mono ?_); rintro e w24 ⟨v205, rfl, ho0, hb⟩; refine ⟨_, rfl, ?_⟩; have n0_ := Aside0.mk (Kd.V_lower (Kd.V_mono (ok' := fun k_ => True) ho0 (fun k_ hk_ => trivial)) (below_size (by repeat (first | (with_reducible first | exact HB.out | apply below_alloc | apply pw_below_drewN | apply below_drew1) | exact HB.out)))); have n1_ := Aside0.mk (below_step (by repeat (first | (with_reducible first | exact HB.out | apply below_alloc | apply pw_below_drewN | apply below_drew1) | exact HB.out)) hb); clear HB; have HO206 := n0_; have HB := n1_; clear n0_ n1_; (try clear hb); (try clear hb2); (try clear hk); (try clear hi); (try clear ho0); obtain ⟨Ao25, co25, eo25⟩ := Kd.V_slice HO206.out; subst eo25; have p207 : 0 ≤ ((ji20) : Int) := of_decide_eq_true (by first | (with_reducible assumption) | assumption); have q207 : (ji20) < (t204.length : Int) := of_decide_eq_true (by first | (with_reducible assumption) | assumption); obtain ⟨ad207, e207, hx207_0⟩ := Kd.at_int (Kd.V_reads' HO206.out).2.2 (ji20) p207 q207; cases e207; replace p207 := eq_true p207; replace q207 := eq_true q207))
                go_ret2
                exact ⟨by first | rfl | (simp [errW_none, errW_some] <;> rfl) | (simp only [← hji20]; first | rfl | (simp [errW_none, errW_some] <;> rfl)) | (simp [*, errW_none, errW_some] <;> rfl), by repeat (first | (with_reducible first | exact HB.out | apply below_alloc | apply pw_below_drewN | apply below_drew1) | exact HB.out)⟩
              · rw [if_neg c23] at H
                have c23b0 : decide ((rd t204 (ji20)) < 0) = false := decide_eq_false c23
                clear c23
                simp only [Option.some.injEq, Prod.mk.injEq] at H
                obtain ⟨rfl, rfl⟩ := H
                go_wp2_with (first | ((with_reducible refine gate_callee (f := 37) rfl ?_); refine goesL_ (some 31) rfl rfl Try.func37 (by kernel_rfl) rfl #[.int .i64 a0] rfl (by (try simp only [List.map_toArray, List.map_cons, List.map_nil]); first | done | rfl | (simp only [List.length_drop, List.length_take]; rfl)) ?_; (with_reducible refine (rampartref19_row.calls a0 t204 _ A19.out).mono ?_); rintro e w26 ⟨v205, rfl, ho0, hb⟩; refine ⟨_, rfl, ?_⟩; have n0_ := Aside0.mk (Kd.V_lower (Kd.V_mono (ok' := fun k_ => True) ho0 (fun k_ hk_ => trivial)) (below_size (by repeat (first | (with_reducible first | exact HB.out | apply below_alloc | apply pw_below_drewN | apply below_drew1) | exact HB.out)))); have n1_ := Aside0.mk (below_step (by repeat (first | (with_reducible first | exact HB.out | apply below_alloc | apply pw_below_drewN | apply below_drew1) | exact HB.out)) hb); clear HB; have HO206 := n0_; have HB := n1_; clear n0_ n1_; (try clear hb); (try clear hb2); (try clear hk); (try clear hi); (try clear ho0); obtain ⟨Ao27, co27, eo27⟩ := Kd.V_slice HO206.out; subst eo27; have p207 : 0 ≤ ((ji20) : Int) := of_decide_eq_true (by first | (with_reducible assumption) | assumption); have q207 : (ji20) < (t204.length : Int) := of_decide_eq_true (by first | (with_reducible assumption) | assumption); obtain ⟨ad207, e207, hx207_0⟩ := Kd.at_int (Kd.V_reads' HO206.out).2.2 (ji20) p207 q207; cases e207; replace p207 := eq_true p207; replace q207 := eq_true q207))
                go_ret2
                exact ⟨by first | rfl | (simp [errW_none, errW_some] <;> rfl) | (simp only [← hji20]; first | rfl | (simp [errW_none, errW_some] <;> rfl)) | (simp [*, errW_none, errW_some] <;> rfl), by repeat (first | (with_reducible first | exact HB.out | apply below_alloc | apply pw_below_drewN | apply below_drew1) | exact HB.out)⟩
            · rw [if_neg c22] at H
              exact absurd H (by simp)
          · rw [if_neg c21] at H
            exact absurd H (by simp)

/-! ### phase_names: function 38 -/
def phase_names.f  : Option (ByteArray × ByteArray × ByteArray × ByteArray × ByteArray × ByteArray × ByteArray × ByteArray × ByteArray × ByteArray) := some ((⟨#[110, 111, 110, 101]⟩ : ByteArray), (⟨#[97, 115, 107, 101, 100]⟩ : ByteArray), (⟨#[98, 111, 116, 104]⟩ : ByteArray), (⟨#[97, 110, 115, 119, 101, 114, 101, 100]⟩ : ByteArray), (⟨#[111, 112, 101, 110]⟩ : ByteArray), (⟨#[100, 111, 110, 101, 49]⟩ : ByteArray), (⟨#[100, 111, 110, 101, 50]⟩ : ByteArray), (⟨#[100, 111, 110, 101]⟩ : ByteArray), (⟨#[119, 97, 105, 116]⟩ : ByteArray), (⟨#[99, 108, 111, 115, 101, 100]⟩ : ByteArray))
set_option maxHeartbeats 8000000 in
set_option maxRecDepth 100000 in
theorem phase_names.calls  (r1 : ByteArray) (r2 : ByteArray) (r3 : ByteArray) (r4 : ByteArray) (r5 : ByteArray) (r6 : ByteArray) (r7 : ByteArray) (r8 : ByteArray) (r9 : ByteArray) (r10 : ByteArray) (w : World) (h : phase_names.f  = some (r1, r2, r3, r4, r5, r6, r7, r8, r9, r10)) :
    Calls Try.prog 38 #[] w fun e w' => e = .returned (.agg #[.string r1, .string r2, .string r3, .string r4, .string r5, .string r6, .string r7, .string r8, .string r9, .string r10]) ∧ Below w.heap.size w w' := by
  have hu45 := Try.underlying45
  have HB := Aside0.mk (Below.refl w.heap.size w)
  have H : (some ((⟨#[110, 111, 110, 101]⟩ : ByteArray), (⟨#[97, 115, 107, 101, 100]⟩ : ByteArray), (⟨#[98, 111, 116, 104]⟩ : ByteArray), (⟨#[97, 110, 115, 119, 101, 114, 101, 100]⟩ : ByteArray), (⟨#[111, 112, 101, 110]⟩ : ByteArray), (⟨#[100, 111, 110, 101, 49]⟩ : ByteArray), (⟨#[100, 111, 110, 101, 50]⟩ : ByteArray), (⟨#[100, 111, 110, 101]⟩ : ByteArray), (⟨#[119, 97, 105, 116]⟩ : ByteArray), (⟨#[99, 108, 111, 115, 101, 100]⟩ : ByteArray))) = some (r1, r2, r3, r4, r5, r6, r7, r8, r9, r10) := h
  clear h
  simp only [Option.some.injEq, Prod.mk.injEq] at H
  obtain ⟨rfl, rfl, rfl, rfl, rfl, rfl, rfl, rfl, rfl, rfl⟩ := H
  go_enter Try.func38, Try.ntmps38
  go_wp2_with (first | ((with_reducible refine gate_dst (N := 0) rfl ?_); refine box_event ?hg (N := 0) ?hd (cs := #[.string (⟨#[]⟩ : ByteArray), .string (⟨#[]⟩ : ByteArray), .string (⟨#[]⟩ : ByteArray), .string (⟨#[]⟩ : ByteArray), .string (⟨#[]⟩ : ByteArray), .string (⟨#[]⟩ : ByteArray), .string (⟨#[]⟩ : ByteArray), .string (⟨#[]⟩ : ByteArray), .string (⟨#[]⟩ : ByteArray), .string (⟨#[]⟩ : ByteArray)]) (t := 45) ?hr ?_; (case hd => rfl); (case hg => rfl); (case hr => first | (go_simp; done) | (go_simp; rfl)); intro gb208 hg w1 hbox hb; have n0_ := Aside0.mk (below_step (by repeat (first | (with_reducible first | exact HB.out | apply below_alloc | apply pw_below_drewN | apply below_drew1) | exact HB.out)) hb); have n1_ := Aside0.mk (hbox); have n2_ := Aside0.mk ((by rw [hg]; exact (below_size (by repeat (first | (with_reducible first | exact HB.out | apply below_alloc | apply pw_below_drewN | apply below_drew1) | exact HB.out))) : w.heap.size ≤ gb208)); have n3_ := Aside0.mk ((by rw [hg]; exact (below_size (by repeat (first | (with_reducible first | exact HB.out | apply below_alloc | apply pw_below_drewN | apply below_drew1) | exact HB.out))) : w.heap.size ≤ gb208)); clear HB; have HB := n0_; have BK208 := n1_; have GW208 := n2_; have GE208 := n3_; clear n0_ n1_ n2_ n3_; clear hb hbox hg; have hcz2_0 : w1.cell? ⟨gb208, 0, none⟩ = some (.string (⟨#[]⟩ : ByteArray)) := (blk_cell BK208.out 0).trans rfl; have hcz2_1 : w1.cell? ⟨gb208, 1, none⟩ = some (.string (⟨#[]⟩ : ByteArray)) := (blk_cell BK208.out 1).trans rfl; have hcz2_2 : w1.cell? ⟨gb208, 2, none⟩ = some (.string (⟨#[]⟩ : ByteArray)) := (blk_cell BK208.out 2).trans rfl; have hcz2_3 : w1.cell? ⟨gb208, 3, none⟩ = some (.string (⟨#[]⟩ : ByteArray)) := (blk_cell BK208.out 3).trans rfl; have hcz2_4 : w1.cell? ⟨gb208, 4, none⟩ = some (.string (⟨#[]⟩ : ByteArray)) := (blk_cell BK208.out 4).trans rfl; have hcz2_5 : w1.cell? ⟨gb208, 5, none⟩ = some (.string (⟨#[]⟩ : ByteArray)) := (blk_cell BK208.out 5).trans rfl; have hcz2_6 : w1.cell? ⟨gb208, 6, none⟩ = some (.string (⟨#[]⟩ : ByteArray)) := (blk_cell BK208.out 6).trans rfl; have hcz2_7 : w1.cell? ⟨gb208, 7, none⟩ = some (.string (⟨#[]⟩ : ByteArray)) := (blk_cell BK208.out 7).trans rfl; have hcz2_8 : w1.cell? ⟨gb208, 8, none⟩ = some (.string (⟨#[]⟩ : ByteArray)) := (blk_cell BK208.out 8).trans rfl; have hcz2_9 : w1.cell? ⟨gb208, 9, none⟩ = some (.string (⟨#[]⟩ : ByteArray)) := (blk_cell BK208.out 9).trans rfl; have hfz2_0 := blk_frozen BK208.out 0; have hfz2_1 := blk_frozen BK208.out 1; have hfz2_2 := blk_frozen BK208.out 2; have hfz2_3 := blk_frozen BK208.out 3; have hfz2_4 := blk_frozen BK208.out 4; have hfz2_5 := blk_frozen BK208.out 5; have hfz2_6 := blk_frozen BK208.out 6; have hfz2_7 := blk_frozen BK208.out 7; have hfz2_8 := blk_frozen BK208.out 8; have hfz2_9 := blk_frozen BK208.out 9))
  refine bodyPost_ret (results_cell_row rfl _ _ gb208 45 #[.string (⟨#[110, 111, 110, 101]⟩ : ByteArray), .string (⟨#[97, 115, 107, 101, 100]⟩ : ByteArray), .string (⟨#[98, 111, 116, 104]⟩ : ByteArray), .string (⟨#[97, 110, 115, 119, 101, 114, 101, 100]⟩ : ByteArray), .string (⟨#[111, 112, 101, 110]⟩ : ByteArray), .string (⟨#[100, 111, 110, 101, 49]⟩ : ByteArray), .string (⟨#[100, 111, 110, 101, 50]⟩ : ByteArray), .string (⟨#[100, 111, 110, 101]⟩ : ByteArray), .string (⟨#[119, 97, 105, 116]⟩ : ByteArray), .string (⟨#[99, 108, 111, 115, 101, 100]⟩ : ByteArray)] (0, 0) _ rfl (by (with_reducible repeat (first | refine blk_drewN ?_ _ | refine blk_drew ?_ | refine blk_alloc ?_ _)); refine blk_put (cs := #[.string (⟨#[110, 111, 110, 101]⟩ : ByteArray), .string (⟨#[97, 115, 107, 101, 100]⟩ : ByteArray), .string (⟨#[98, 111, 116, 104]⟩ : ByteArray), .string (⟨#[97, 110, 115, 119, 101, 114, 101, 100]⟩ : ByteArray), .string (⟨#[111, 112, 101, 110]⟩ : ByteArray), .string (⟨#[100, 111, 110, 101, 49]⟩ : ByteArray), .string (⟨#[100, 111, 110, 101, 50]⟩ : ByteArray), .string (⟨#[100, 111, 110, 101]⟩ : ByteArray), .string (⟨#[119, 97, 105, 116]⟩ : ByteArray), .string (⟨#[]⟩ : ByteArray)]) ?_ 9 _ rfl; (with_reducible repeat (first | refine blk_drewN ?_ _ | refine blk_drew ?_ | refine blk_alloc ?_ _)); refine blk_put (cs := #[.string (⟨#[110, 111, 110, 101]⟩ : ByteArray), .string (⟨#[97, 115, 107, 101, 100]⟩ : ByteArray), .string (⟨#[98, 111, 116, 104]⟩ : ByteArray), .string (⟨#[97, 110, 115, 119, 101, 114, 101, 100]⟩ : ByteArray), .string (⟨#[111, 112, 101, 110]⟩ : ByteArray), .string (⟨#[100, 111, 110, 101, 49]⟩ : ByteArray), .string (⟨#[100, 111, 110, 101, 50]⟩ : ByteArray), .string (⟨#[100, 111, 110, 101]⟩ : ByteArray), .string (⟨#[]⟩ : ByteArray), .string (⟨#[]⟩ : ByteArray)]) ?_ 8 _ rfl; (with_reducible repeat (first | refine blk_drewN ?_ _ | refine blk_drew ?_ | refine blk_alloc ?_ _)); refine blk_put (cs := #[.string (⟨#[110, 111, 110, 101]⟩ : ByteArray), .string (⟨#[97, 115, 107, 101, 100]⟩ : ByteArray), .string (⟨#[98, 111, 116, 104]⟩ : ByteArray), .string (⟨#[97, 110, 115, 119, 101, 114, 101, 100]⟩ : ByteArray), .string (⟨#[111, 112, 101, 110]⟩ : ByteArray), .string (⟨#[100, 111, 110, 101, 49]⟩ : ByteArray), .string (⟨#[100, 111, 110, 101, 50]⟩ : ByteArray), .string (⟨#[]⟩ : ByteArray), .string (⟨#[]⟩ : ByteArray), .string (⟨#[]⟩ : ByteArray)]) ?_ 7 _ rfl; (with_reducible repeat (first | refine blk_drewN ?_ _ | refine blk_drew ?_ | refine blk_alloc ?_ _)); refine blk_put (cs := #[.string (⟨#[110, 111, 110, 101]⟩ : ByteArray), .string (⟨#[97, 115, 107, 101, 100]⟩ : ByteArray), .string (⟨#[98, 111, 116, 104]⟩ : ByteArray), .string (⟨#[97, 110, 115, 119, 101, 114, 101, 100]⟩ : ByteArray), .string (⟨#[111, 112, 101, 110]⟩ : ByteArray), .string (⟨#[100, 111, 110, 101, 49]⟩ : ByteArray), .string (⟨#[]⟩ : ByteArray), .string (⟨#[]⟩ : ByteArray), .string (⟨#[]⟩ : ByteArray), .string (⟨#[]⟩ : ByteArray)]) ?_ 6 _ rfl; (with_reducible repeat (first | refine blk_drewN ?_ _ | refine blk_drew ?_ | refine blk_alloc ?_ _)); refine blk_put (cs := #[.string (⟨#[110, 111, 110, 101]⟩ : ByteArray), .string (⟨#[97, 115, 107, 101, 100]⟩ : ByteArray), .string (⟨#[98, 111, 116, 104]⟩ : ByteArray), .string (⟨#[97, 110, 115, 119, 101, 114, 101, 100]⟩ : ByteArray), .string (⟨#[111, 112, 101, 110]⟩ : ByteArray), .string (⟨#[]⟩ : ByteArray), .string (⟨#[]⟩ : ByteArray), .string (⟨#[]⟩ : ByteArray), .string (⟨#[]⟩ : ByteArray), .string (⟨#[]⟩ : ByteArray)]) ?_ 5 _ rfl; (with_reducible repeat (first | refine blk_drewN ?_ _ | refine blk_drew ?_ | refine blk_alloc ?_ _)); refine blk_put (cs := #[.string (⟨#[110, 111, 110, 101]⟩ : ByteArray), .string (⟨#[97, 115, 107, 101, 100]⟩ : ByteArray), .string (⟨#[98, 111, 116, 104]⟩ : ByteArray), .string (⟨#[97, 110, 115, 119, 101, 114, 101, 100]⟩ : ByteArray), .string (⟨#[]⟩ : ByteArray), .string (⟨#[]⟩ : ByteArray), .string (⟨#[]⟩ : ByteArray), .string (⟨#[]⟩ : ByteArray), .string (⟨#[]⟩ : ByteArray), .string (⟨#[]⟩ : ByteArray)]) ?_ 4 _ rfl; (with_reducible repeat (first | refine blk_drewN ?_ _ | refine blk_drew ?_ | refine blk_alloc ?_ _)); refine blk_put (cs := #[.string (⟨#[110, 111, 110, 101]⟩ : ByteArray), .string (⟨#[97, 115, 107, 101, 100]⟩ : ByteArray), .string (⟨#[98, 111, 116, 104]⟩ : ByteArray), .string (⟨#[]⟩ : ByteArray), .string (⟨#[]⟩ : ByteArray), .string (⟨#[]⟩ : ByteArray), .string (⟨#[]⟩ : ByteArray), .string (⟨#[]⟩ : ByteArray), .string (⟨#[]⟩ : ByteArray), .string (⟨#[]⟩ : ByteArray)]) ?_ 3 _ rfl; (with_reducible repeat (first | refine blk_drewN ?_ _ | refine blk_drew ?_ | refine blk_alloc ?_ _)); refine blk_put (cs := #[.string (⟨#[110, 111, 110, 101]⟩ : ByteArray), .string (⟨#[97, 115, 107, 101, 100]⟩ : ByteArray), .string (⟨#[]⟩ : ByteArray), .string (⟨#[]⟩ : ByteArray), .string (⟨#[]⟩ : ByteArray), .string (⟨#[]⟩ : ByteArray), .string (⟨#[]⟩ : ByteArray), .string (⟨#[]⟩ : ByteArray), .string (⟨#[]⟩ : ByteArray), .string (⟨#[]⟩ : ByteArray)]) ?_ 2 _ rfl; (with_reducible repeat (first | refine blk_drewN ?_ _ | refine blk_drew ?_ | refine blk_alloc ?_ _)); refine blk_put (cs := #[.string (⟨#[110, 111, 110, 101]⟩ : ByteArray), .string (⟨#[]⟩ : ByteArray), .string (⟨#[]⟩ : ByteArray), .string (⟨#[]⟩ : ByteArray), .string (⟨#[]⟩ : ByteArray), .string (⟨#[]⟩ : ByteArray), .string (⟨#[]⟩ : ByteArray), .string (⟨#[]⟩ : ByteArray), .string (⟨#[]⟩ : ByteArray), .string (⟨#[]⟩ : ByteArray)]) ?_ 1 _ rfl; (with_reducible repeat (first | refine blk_drewN ?_ _ | refine blk_drew ?_ | refine blk_alloc ?_ _)); refine blk_put (cs := #[.string (⟨#[]⟩ : ByteArray), .string (⟨#[]⟩ : ByteArray), .string (⟨#[]⟩ : ByteArray), .string (⟨#[]⟩ : ByteArray), .string (⟨#[]⟩ : ByteArray), .string (⟨#[]⟩ : ByteArray), .string (⟨#[]⟩ : ByteArray), .string (⟨#[]⟩ : ByteArray), .string (⟨#[]⟩ : ByteArray), .string (⟨#[]⟩ : ByteArray)]) ?_ 0 _ rfl; (with_reducible repeat (first | refine blk_drewN ?_ _ | refine blk_drew ?_ | refine blk_alloc ?_ _)); exact BK208.out) Try.underlying45 rfl (by kernel_rfl)) rfl ?_
  exact ⟨by first | rfl | (simp [errW_none, errW_some] <;> rfl) | (simp [*, errW_none, errW_some] <;> rfl), by repeat (first | (with_reducible first | exact HB.out | apply below_alloc | apply pw_below_drewN | apply below_drew1 | refine below_set ?_ GE208.out) | exact HB.out)⟩

end Go.Proofs.Ytaemgicmbnmecaa.PAll
