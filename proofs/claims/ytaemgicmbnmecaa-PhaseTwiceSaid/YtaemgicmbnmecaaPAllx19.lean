-- Written by a program of this work (wip/mkprint.py, wip/myprint.sh) out of the translation; not trusted: Lean checks it.
import Derived.Test.YtaemgicmbnmecaaPAllx0
import Derived.Test.YtaemgicmbnmecaaPAllx11
import Derived.Test.YtaemgicmbnmecaaPAllx15
namespace Go.Proofs.Ytaemgicmbnmecaa.PAll
open Go.RowKit Go.Proofs.YtaemgicmbnmecaaW.PrintWords Go.Proofs.YtaemgicmbnmecaaW.PrintLast Go.Proofs.YtaemgicmbnmecaaW.PrintMore
attribute [local go_sem] max2_int min2_int max_two min_two max_three min_three max_four min_four   -- for this text's walks alone
set_option linter.unusedVariables false
set_option linter.unusedSimpArgs false

/-! ### rampartlaw19_PhaseTwice: function 11 -/
def rampartlaw19_PhaseTwice.f (k : Nat) (a0 : Int) (a1 : Bool) (a2 : Int) : Option (Bool) := (phase_Next.f k (Int.tmod (wrap64 (a0)) 10) a1 (Int.tmod (wrap64 (a2)) 6)).bind fun bt262 => (if bt262.2 = true then ((phase_Next.f k bt262.1 a1 (Int.tmod (wrap64 (a2)) 6)).bind fun bt264 => (if bt264.2 = true then (if bt262.1 = bt264.1 then ((rampartlaw19_known.f k).bind fun t266 => (some t266)) else (some false)) else (some false))) else (if bt262.1 = (Int.tmod (wrap64 (a0)) 10) then ((rampartlaw19_known.f k).bind fun t267 => (some t267)) else (some false)))
theorem rampartlaw19_PhaseTwice.mono : ∀ a0 a1 a2 k, LeO (rampartlaw19_PhaseTwice.f k a0 a1 a2) (rampartlaw19_PhaseTwice.f (k + 1) a0 a1 a2) := by
  intro a0 a1 a2 k
  unfold rampartlaw19_PhaseTwice.f
  repeat' first
      | (with_reducible exact phase_Next.mono _ _ _ _)
      | (with_reducible exact rampartlaw19_known.mono _)
      | (with_reducible exact LeO.refl _)
      | (with_reducible exact LeO.none _)
      | (with_reducible refine LeO.ite ?_ ?_)
      | (with_reducible refine LeO.bind ?_ (fun _ => ?_))
      | exact phase_Next.mono _ _ _ _
      | exact rampartlaw19_known.mono _
      | exact LeO.none _
      | refine LeO.ite ?_ ?_
      | refine LeO.bind ?_ (fun _ => ?_)
set_option maxHeartbeats 8000000 in
set_option maxRecDepth 100000 in
theorem rampartlaw19_PhaseTwice.calls (k : Nat) (a0 : Int) (a1 : Bool) (a2 : Int) (r : Bool) (w : World) (h : rampartlaw19_PhaseTwice.f k a0 a1 a2 = some r) :
    Calls Try.prog 11 #[.int .u8 a0, .bool a1, .int .u8 a2] w fun e w' => e = .returned (.bool r) ∧ Below w.heap.size w w' := by
  have HB := Aside0.mk (Below.refl w.heap.size w)
  have H : ((phase_Next.f k (Int.tmod (wrap64 (a0)) 10) a1 (Int.tmod (wrap64 (a2)) 6)).bind fun bt262 => (if bt262.2 = true then ((phase_Next.f k bt262.1 a1 (Int.tmod (wrap64 (a2)) 6)).bind fun bt264 => (if bt264.2 = true then (if bt262.1 = bt264.1 then ((rampartlaw19_known.f k).bind fun t266 => (some t266)) else (some false)) else (some false))) else (if bt262.1 = (Int.tmod (wrap64 (a0)) 10) then ((rampartlaw19_known.f k).bind fun t267 => (some t267)) else (some false)))) = some r := h
  clear h
  replace H := Option.bind_eq_some_iff.mp H
  obtain ⟨⟨t262, t263⟩, A40, H⟩ := H
  replace H : (if t263 = true then ((phase_Next.f k t262 a1 (Int.tmod (wrap64 (a2)) 6)).bind fun bt264 => (if bt264.2 = true then (if t262 = bt264.1 then ((rampartlaw19_known.f k).bind fun t266 => (some t266)) else (some false)) else (some false))) else (if t262 = (Int.tmod (wrap64 (a0)) 10) then ((rampartlaw19_known.f k).bind fun t267 => (some t267)) else (some false))) = some r := H
  have A4 := Aside0.mk A40
  clear A40
  by_cases c5 : t263 = true
  · subst c5
    have H1 : ((phase_Next.f k t262 a1 (Int.tmod (wrap64 (a2)) 6)).bind fun bt264 => (if bt264.2 = true then (if t262 = bt264.1 then ((rampartlaw19_known.f k).bind fun t266 => (some t266)) else (some false)) else (some false))) = some r := by rw [if_pos rfl] at H; exact H
    clear H
    have H := H1
    clear H1
    replace H := Option.bind_eq_some_iff.mp H
    obtain ⟨⟨t264, t265⟩, A60, H⟩ := H
    replace H : (if t265 = true then (if t262 = t264 then ((rampartlaw19_known.f k).bind fun t266 => (some t266)) else (some false)) else (some false)) = some r := H
    have A6 := Aside0.mk A60
    clear A60
    by_cases c7 : t265 = true
    · subst c7
      have H1 : (if t262 = t264 then ((rampartlaw19_known.f k).bind fun t266 => (some t266)) else (some false)) = some r := by rw [if_pos rfl] at H; exact H
      clear H
      have H := H1
      clear H1
      by_cases c8 : t262 = t264
      · rw [if_pos c8] at H
        have c8b0 : (t262 == t264) = true := beq_iff_eq.mpr c8
        have c8b1 : (t262 != t264) = false := bne_eq_false_iff_eq.mpr c8
        clear c8
        replace H := Option.bind_eq_some_iff.mp H
        obtain ⟨t266, A90, H⟩ := H
        replace H : (some t266) = some r := H
        have A9 := Aside0.mk A90
        clear A90
        obtain rfl := Option.some.inj H
        go_enter Try.func11, Try.ntmps11
        go_wp2_with (first | ((with_reducible refine gate_callee (f := 22) rfl ?_); refine goesL_ (some 23) rfl rfl Try.func22 (by kernel_rfl) rfl #[.int .i64 (Int.tmod (wrap64 (a0)) 10), .bool a1, .int .i64 (Int.tmod (wrap64 (a2)) 6)] rfl (by (try simp only [List.map_toArray, List.map_cons, List.map_nil]); first | done | rfl | (simp only [List.length_drop, List.length_take]; rfl)) ?_; (with_reducible refine (phase_Next.calls k (Int.tmod (wrap64 (a0)) 10) a1 (Int.tmod (wrap64 (a2)) 6) t262 true _ A4.out).mono ?_); rintro e w' ⟨rfl, ⟨nd, rfl⟩⟩; refine ⟨_, rfl, ?_⟩) | ((with_reducible refine gate_callee (f := 22) rfl ?_); refine goesL_ (some 38) rfl rfl Try.func22 (by kernel_rfl) rfl #[.int .i64 t262, .bool a1, .int .i64 (Int.tmod (wrap64 (a2)) 6)] rfl (by (try simp only [List.map_toArray, List.map_cons, List.map_nil]); first | done | rfl | (simp only [List.length_drop, List.length_take]; rfl)) ?_; (with_reducible refine (phase_Next.calls k t262 a1 (Int.tmod (wrap64 (a2)) 6) t264 true _ A6.out).mono ?_); rintro e w' ⟨rfl, ⟨nd, rfl⟩⟩; refine ⟨_, rfl, ?_⟩) | (go_at_call 30; (with_reducible refine (rampartlaw19_known.calls k  t266 _ A9.out).mono ?_); rintro e w10 ⟨rfl, hb⟩; have n0_ := Aside0.mk (below_step (by repeat (first | (with_reducible first | exact HB.out | apply below_alloc | apply pw_below_drewN | apply below_drew1) | exact HB.out)) hb); clear HB; have HB := n0_; clear n0_; (try clear hb); (try clear hb2); (try clear hk); (try clear hi)))
        go_ret
        exact ⟨by first | rfl | (simp [errW_none, errW_some] <;> rfl) | (simp [*, errW_none, errW_some] <;> rfl), by repeat (first | (with_reducible first | exact HB.out | apply below_alloc | apply pw_below_drewN | apply below_drew1) | exact HB.out)⟩
      · rw [if_neg c8] at H
        have c8b0 : (t262 == t264) = false := beq_eq_false_iff_ne.mpr c8
        have c8b1 : (t262 != t264) = true := bne_iff_ne.mpr c8
        obtain rfl := Option.some.inj H
        go_enter Try.func11, Try.ntmps11
        go_wp2_with (first | ((with_reducible refine gate_callee (f := 22) rfl ?_); refine goesL_ (some 23) rfl rfl Try.func22 (by kernel_rfl) rfl #[.int .i64 (Int.tmod (wrap64 (a0)) 10), .bool a1, .int .i64 (Int.tmod (wrap64 (a2)) 6)] rfl (by (try simp only [List.map_toArray, List.map_cons, List.map_nil]); first | done | rfl | (simp only [List.length_drop, List.length_take]; rfl)) ?_; (with_reducible refine (phase_Next.calls k (Int.tmod (wrap64 (a0)) 10) a1 (Int.tmod (wrap64 (a2)) 6) t262 true _ A4.out).mono ?_); rintro e w' ⟨rfl, ⟨nd, rfl⟩⟩; refine ⟨_, rfl, ?_⟩) | ((with_reducible refine gate_callee (f := 22) rfl ?_); refine goesL_ (some 38) rfl rfl Try.func22 (by kernel_rfl) rfl #[.int .i64 t262, .bool a1, .int .i64 (Int.tmod (wrap64 (a2)) 6)] rfl (by (try simp only [List.map_toArray, List.map_cons, List.map_nil]); first | done | rfl | (simp only [List.length_drop, List.length_take]; rfl)) ?_; (with_reducible refine (phase_Next.calls k t262 a1 (Int.tmod (wrap64 (a2)) 6) t264 true _ A6.out).mono ?_); rintro e w' ⟨rfl, ⟨nd, rfl⟩⟩; refine ⟨_, rfl, ?_⟩))
        go_ret
        exact ⟨by first | rfl | (simp [errW_none, errW_some] <;> rfl) | (simp [*, errW_none, errW_some] <;> rfl), by repeat (first | (with_reducible first | exact HB.out | apply below_alloc | apply pw_below_drewN | apply below_drew1) | exact HB.out)⟩
    · replace c7 := Bool.eq_false_iff.mpr c7
      subst c7
      have H1 : (some false) = some r := by rw [if_neg (show ¬ (false = true) by decide)] at H; exact H
      clear H
      have H := H1
      clear H1
      obtain rfl := Option.some.inj H
      go_enter Try.func11, Try.ntmps11
      go_wp2_with (first | ((with_reducible refine gate_callee (f := 22) rfl ?_); refine goesL_ (some 23) rfl rfl Try.func22 (by kernel_rfl) rfl #[.int .i64 (Int.tmod (wrap64 (a0)) 10), .bool a1, .int .i64 (Int.tmod (wrap64 (a2)) 6)] rfl (by (try simp only [List.map_toArray, List.map_cons, List.map_nil]); first | done | rfl | (simp only [List.length_drop, List.length_take]; rfl)) ?_; (with_reducible refine (phase_Next.calls k (Int.tmod (wrap64 (a0)) 10) a1 (Int.tmod (wrap64 (a2)) 6) t262 true _ A4.out).mono ?_); rintro e w' ⟨rfl, ⟨nd, rfl⟩⟩; refine ⟨_, rfl, ?_⟩) | ((with_reducible refine gate_callee (f := 22) rfl ?_); refine goesL_ (some 38) rfl rfl Try.func22 (by kernel_rfl) rfl #[.int .i64 t262, .bool a1, .int .i64 (Int.tmod (wrap64 (a2)) 6)] rfl (by (try simp only [List.map_toArray, List.map_cons, List.map_nil]); first | done | rfl | (simp only [List.length_drop, List.length_take]; rfl)) ?_; (with_reducible refine (phase_Next.calls k t262 a1 (Int.tmod (wrap64 (a2)) 6) t264 false _ A6.out).mono ?_); rintro e w' ⟨rfl, ⟨nd, rfl⟩⟩; refine ⟨_, rfl, ?_⟩))
      go_ret
      exact ⟨by first | rfl | (simp [errW_none, errW_some] <;> rfl) | (simp [*, errW_none, errW_some] <;> rfl), by repeat (first | (with_reducible first | exact HB.out | apply below_alloc | apply pw_below_drewN | apply below_drew1) | exact HB.out)⟩
  · replace c5 := Bool.eq_false_iff.mpr c5
    subst c5
    have H1 : (if t262 = (Int.tmod (wrap64 (a0)) 10) then ((rampartlaw19_known.f k).bind fun t267 => (some t267)) else (some false)) = some r := by rw [if_neg (show ¬ (false = true) by decide)] at H; exact H
    clear H
    have H := H1
    clear H1
    by_cases c11 : t262 = (Int.tmod (wrap64 (a0)) 10)
    · rw [if_pos c11] at H
      have c11b0 : (t262 == (Int.tmod (wrap64 (a0)) 10)) = true := beq_iff_eq.mpr c11
      have c11b1 : (t262 != (Int.tmod (wrap64 (a0)) 10)) = false := bne_eq_false_iff_eq.mpr c11
      clear c11
      replace H := Option.bind_eq_some_iff.mp H
      obtain ⟨t267, A120, H⟩ := H
      replace H : (some t267) = some r := H
      have A12 := Aside0.mk A120
      clear A120
      obtain rfl := Option.some.inj H
      go_enter Try.func11, Try.ntmps11
      go_wp2_with (first | ((with_reducible refine gate_callee (f := 22) rfl ?_); refine goesL_ (some 23) rfl rfl Try.func22 (by kernel_rfl) rfl #[.int .i64 (Int.tmod (wrap64 (a0)) 10), .bool a1, .int .i64 (Int.tmod (wrap64 (a2)) 6)] rfl (by (try simp only [List.map_toArray, List.map_cons, List.map_nil]); first | done | rfl | (simp only [List.length_drop, List.length_take]; rfl)) ?_; (with_reducible refine (phase_Next.calls k (Int.tmod (wrap64 (a0)) 10) a1 (Int.tmod (wrap64 (a2)) 6) t262 false _ A4.out).mono ?_); rintro e w' ⟨rfl, ⟨nd, rfl⟩⟩; refine ⟨_, rfl, ?_⟩) | (go_at_call 30; (with_reducible refine (rampartlaw19_known.calls k  t267 _ A12.out).mono ?_); rintro e w13 ⟨rfl, hb⟩; have n0_ := Aside0.mk (below_step (by repeat (first | (with_reducible first | exact HB.out | apply below_alloc | apply pw_below_drewN | apply below_drew1) | exact HB.out)) hb); clear HB; have HB := n0_; clear n0_; (try clear hb); (try clear hb2); (try clear hk); (try clear hi)))
      go_ret
      exact ⟨by first | rfl | (simp [errW_none, errW_some] <;> rfl) | (simp [*, errW_none, errW_some] <;> rfl), by repeat (first | (with_reducible first | exact HB.out | apply below_alloc | apply pw_below_drewN | apply below_drew1) | exact HB.out)⟩
    · rw [if_neg c11] at H
      have c11b0 : (t262 == (Int.tmod (wrap64 (a0)) 10)) = false := beq_eq_false_iff_ne.mpr c11
      have c11b1 : (t262 != (Int.tmod (wrap64 (a0)) 10)) = true := bne_iff_ne.mpr c11
      obtain rfl := Option.some.inj H
      go_enter Try.func11, Try.ntmps11
      go_wp2_with (first | ((with_reducible refine gate_callee (f := 22) rfl ?_); refine goesL_ (some 23) rfl rfl Try.func22 (by kernel_rfl) rfl #[.int .i64 (Int.tmod (wrap64 (a0)) 10), .bool a1, .int .i64 (Int.tmod (wrap64 (a2)) 6)] rfl (by (try simp only [List.map_toArray, List.map_cons, List.map_nil]); first | done | rfl | (simp only [List.length_drop, List.length_take]; rfl)) ?_; (with_reducible refine (phase_Next.calls k (Int.tmod (wrap64 (a0)) 10) a1 (Int.tmod (wrap64 (a2)) 6) t262 false _ A4.out).mono ?_); rintro e w' ⟨rfl, ⟨nd, rfl⟩⟩; refine ⟨_, rfl, ?_⟩))
      go_ret
      exact ⟨by first | rfl | (simp [errW_none, errW_some] <;> rfl) | (simp [*, errW_none, errW_some] <;> rfl), by repeat (first | (with_reducible first | exact HB.out | apply below_alloc | apply pw_below_drewN | apply below_drew1) | exact HB.out)⟩

/-- THE ONE PURE STATEMENT of rampartlaw19_PhaseTwice: yours. -/
def rampartlaw19_PhaseTwice.Pure : Prop := ∀ (a0 : Int) (a1 : Bool) (a2 : Int), (Lit.int .u8 a0).wf = true → (Lit.int .u8 a2).wf = true → ∃ k, rampartlaw19_PhaseTwice.f k a0 a1 a2 = some true
theorem rampartlaw19_PhaseTwice.walk (P : rampartlaw19_PhaseTwice.Pure) (a0 : Int) (a1 : Bool) (a2 : Int) (w : World) (w0 : (Lit.int .u8 a0).wf = true) (w2 : (Lit.int .u8 a2).wf = true) :
    Calls Try.prog 11 #[.int .u8 a0, .bool a1, .int .u8 a2] w fun e w' => e = .returned (.bool true) ∧ Below w.heap.size w w' := by
  obtain ⟨k, h⟩ := P a0 a1 a2 w0 w2
  refine (rampartlaw19_PhaseTwice.calls k a0 a1 a2 true w h).mono ?_
  rintro e w' ⟨rfl, hd⟩
  exact ⟨rfl, hd⟩

end Go.Proofs.Ytaemgicmbnmecaa.PAll
