-- Written by a program of this work (wip/mkprint.py, wip/myprint.sh) out of the translation; not trusted: Lean checks it.
import Derived.Test.YtaemgicmbnmecaaPAllx0
namespace Go.Proofs.Ytaemgicmbnmecaa.PAll
open Go.RowKit Go.Proofs.YtaemgicmbnmecaaW.PrintWords Go.Proofs.YtaemgicmbnmecaaW.PrintLast Go.Proofs.YtaemgicmbnmecaaW.PrintMore
attribute [local go_sem] max2_int min2_int max_two min_two max_three min_three max_four min_four   -- for this text's walks alone
set_option linter.unusedVariables false
set_option linter.unusedSimpArgs false

/-! ### flags_Name: function 15 (by hand) -/
def flags_Name.f (a0 : Int) : Option (ByteArray) := if a0 < 0 then some (⟨#[]⟩ : ByteArray) else if a0 = 0 then some (⟨#[98, 97, 100]⟩ : ByteArray) else if a0 = 1 then some (⟨#[115, 121, 110]⟩ : ByteArray) else if a0 = 2 then some (⟨#[115, 121, 110, 97, 99, 107]⟩ : ByteArray) else if a0 = 3 then some (⟨#[112, 108, 97, 105, 110]⟩ : ByteArray) else if a0 = 4 then some (⟨#[102, 105, 110]⟩ : ByteArray) else if a0 = 5 then some (⟨#[114, 115, 116]⟩ : ByteArray) else some (⟨#[]⟩ : ByteArray)
set_option maxHeartbeats 8000000 in
set_option maxRecDepth 100000 in
theorem flags_Name.calls (a0 : Int) (r : ByteArray) (w : World) (h : flags_Name.f a0 = some r) :
    Calls Try.prog 15 #[.int .i64 a0] w fun e w' => e = .returned (.string r) ∧ Below w.heap.size w w' := by
  have HB := Aside0.mk (Below.refl w.heap.size w)
  by_cases c : a0 < 0
  · have cb : decide (a0 < 0) = true := decide_eq_true c
    rw [flags_Name.f, if_pos c] at h
    obtain rfl := Option.some.inj h
    go_enter Try.func15, Try.ntmps15
    go_wp2
    go_ret
    exact ⟨by first | rfl | (simp; done) | (simp [*]; done), by first | exact HB.out | repeat (first | exact HB.out | exact Below.refl _ _ | apply below_alloc | apply pw_below_drewN | apply below_drew1)⟩
  have cb : decide (a0 < 0) = false := decide_eq_false c
  rw [flags_Name.f, if_neg c] at h
  by_cases e0 : a0 = 0
  · rw [if_pos e0] at h
    obtain rfl := Option.some.inj h
    subst e0
    clear c cb
    go_enter Try.func15, Try.ntmps15
    go_wp2
    go_ret
    exact ⟨by first | rfl | (simp; done) | (simp [*]; done), by first | exact HB.out | repeat (first | exact HB.out | exact Below.refl _ _ | apply below_alloc | apply pw_below_drewN | apply below_drew1)⟩
  rw [if_neg e0] at h
  by_cases e1 : a0 = 1
  · rw [if_pos e1] at h
    obtain rfl := Option.some.inj h
    subst e1
    clear c cb
    go_enter Try.func15, Try.ntmps15
    go_wp2
    go_ret
    exact ⟨by first | rfl | (simp; done) | (simp [*]; done), by first | exact HB.out | repeat (first | exact HB.out | exact Below.refl _ _ | apply below_alloc | apply pw_below_drewN | apply below_drew1)⟩
  rw [if_neg e1] at h
  by_cases e2 : a0 = 2
  · rw [if_pos e2] at h
    obtain rfl := Option.some.inj h
    subst e2
    clear c cb
    go_enter Try.func15, Try.ntmps15
    go_wp2
    go_ret
    exact ⟨by first | rfl | (simp; done) | (simp [*]; done), by first | exact HB.out | repeat (first | exact HB.out | exact Below.refl _ _ | apply below_alloc | apply pw_below_drewN | apply below_drew1)⟩
  rw [if_neg e2] at h
  by_cases e3 : a0 = 3
  · rw [if_pos e3] at h
    obtain rfl := Option.some.inj h
    subst e3
    clear c cb
    go_enter Try.func15, Try.ntmps15
    go_wp2
    go_ret
    exact ⟨by first | rfl | (simp; done) | (simp [*]; done), by first | exact HB.out | repeat (first | exact HB.out | exact Below.refl _ _ | apply below_alloc | apply pw_below_drewN | apply below_drew1)⟩
  rw [if_neg e3] at h
  by_cases e4 : a0 = 4
  · rw [if_pos e4] at h
    obtain rfl := Option.some.inj h
    subst e4
    clear c cb
    go_enter Try.func15, Try.ntmps15
    go_wp2
    go_ret
    exact ⟨by first | rfl | (simp; done) | (simp [*]; done), by first | exact HB.out | repeat (first | exact HB.out | exact Below.refl _ _ | apply below_alloc | apply pw_below_drewN | apply below_drew1)⟩
  rw [if_neg e4] at h
  by_cases e5 : a0 = 5
  · rw [if_pos e5] at h
    obtain rfl := Option.some.inj h
    subst e5
    clear c cb
    go_enter Try.func15, Try.ntmps15
    go_wp2
    go_ret
    exact ⟨by first | rfl | (simp; done) | (simp [*]; done), by first | exact HB.out | repeat (first | exact HB.out | exact Below.refl _ _ | apply below_alloc | apply pw_below_drewN | apply below_drew1)⟩
  rw [if_neg e5] at h
  have g : 5 < a0 := by omega
  have gb : decide (6 ≤ a0) = true := decide_eq_true (by omega)
  have gc : decide (5 < a0) = true := decide_eq_true (by omega)
  obtain rfl := Option.some.inj h
  clear e0 e1 e2 e3 e4 e5
  go_enter Try.func15, Try.ntmps15
  go_wp2
  go_ret
  exact ⟨by first | rfl | (simp; done) | (simp [*]; done), by first | exact HB.out | repeat (first | exact HB.out | exact Below.refl _ _ | apply below_alloc | apply pw_below_drewN | apply below_drew1)⟩

/-! ### rampartref10_Name: function 16 -/
def rampartref10_Name.f (a0 : Int) : Option (ByteArray) := if a0 < 0 then (some (⟨#[]⟩ : ByteArray)) else (if a0 > 5 then (some (⟨#[]⟩ : ByteArray)) else ((some (([(⟨#[98, 97, 100]⟩ : ByteArray), (⟨#[115, 121, 110]⟩ : ByteArray), (⟨#[115, 121, 110, 97, 99, 107]⟩ : ByteArray), (⟨#[112, 108, 97, 105, 110]⟩ : ByteArray), (⟨#[102, 105, 110]⟩ : ByteArray), (⟨#[114, 115, 116]⟩ : ByteArray)] : List ByteArray) : List ByteArray)).bind fun y105 => (if 0 ≤ a0 then (if a0 < (y105.length : Int) then (some (rdOf ByteArray.empty y105 a0)) else (none)) else (none))))
set_option maxHeartbeats 8000000 in
set_option maxRecDepth 100000 in
theorem rampartref10_Name.calls (a0 : Int) (r : ByteArray) (w : World) (h : rampartref10_Name.f a0 = some r) :
    Calls Try.prog 16 #[.int .i64 a0] w fun e w' => e = .returned (.string r) ∧ Below w.heap.size w w' := by
  have HB := Aside0.mk (Below.refl w.heap.size w)
  have H : (if a0 < 0 then (some (⟨#[]⟩ : ByteArray)) else (if a0 > 5 then (some (⟨#[]⟩ : ByteArray)) else ((some (([(⟨#[98, 97, 100]⟩ : ByteArray), (⟨#[115, 121, 110]⟩ : ByteArray), (⟨#[115, 121, 110, 97, 99, 107]⟩ : ByteArray), (⟨#[112, 108, 97, 105, 110]⟩ : ByteArray), (⟨#[102, 105, 110]⟩ : ByteArray), (⟨#[114, 115, 116]⟩ : ByteArray)] : List ByteArray) : List ByteArray)).bind fun y105 => (if 0 ≤ a0 then (if a0 < (y105.length : Int) then (some (rdOf ByteArray.empty y105 a0)) else (none)) else (none))))) = some r := h
  clear h
  by_cases c2 : a0 < 0
  · rw [if_pos c2] at H
    have c2b0 : decide (a0 < 0) = true := decide_eq_true c2
    clear c2
    obtain rfl := Option.some.inj H
    go_enter Try.func16, Try.ntmps16
    go_wp2
    go_ret
    exact ⟨by first | rfl | (simp [errW_none, errW_some] <;> rfl) | (simp [*, errW_none, errW_some] <;> rfl), by repeat (first | (with_reducible first | exact HB.out | apply below_alloc | apply pw_below_drewN | apply below_drew1) | exact HB.out)⟩
  · rw [if_neg c2] at H
    have c2b0 : decide (a0 < 0) = false := decide_eq_false c2
    clear c2
    by_cases c3 : a0 > 5
    · rw [if_pos c3] at H
      have c3b0 : decide (5 < a0) = true := decide_eq_true c3
      clear c3
      obtain rfl := Option.some.inj H
      go_enter Try.func16, Try.ntmps16
      go_wp2
      go_ret
      exact ⟨by first | rfl | (simp [errW_none, errW_some] <;> rfl) | (simp [*, errW_none, errW_some] <;> rfl), by repeat (first | (with_reducible first | exact HB.out | apply below_alloc | apply pw_below_drewN | apply below_drew1) | exact HB.out)⟩
    · rw [if_neg c3] at H
      have c3b0 : decide (5 < a0) = false := decide_eq_false c3
      clear c3
      obtain ⟨y105, hy105⟩ : ∃ y_ : List ByteArray, y_ = (([(⟨#[98, 97, 100]⟩ : ByteArray), (⟨#[115, 121, 110]⟩ : ByteArray), (⟨#[115, 121, 110, 97, 99, 107]⟩ : ByteArray), (⟨#[112, 108, 97, 105, 110]⟩ : ByteArray), (⟨#[102, 105, 110]⟩ : ByteArray), (⟨#[114, 115, 116]⟩ : ByteArray)] : List ByteArray)) := ⟨_, rfl⟩
      replace H : (if 0 ≤ a0 then (if a0 < (y105.length : Int) then (some (rdOf ByteArray.empty y105 a0)) else (none)) else (none)) = some r := by first | (rw [hy105]; with_reducible exact H) | (have H2_ := (Option.bind_some _ _).symm.trans H; rw [hy105]; with_reducible exact H2_) | (have H2_ := (Option.bind_some _ _).symm.trans H; with_reducible exact H2_) | with_reducible exact H | (rw [hy105]; exact H) | exact H
      have Ny105 := Aside0.mk hy105
      clear hy105
      by_cases c4 : 0 ≤ a0
      · rw [if_pos c4] at H
        have c4b0 : decide (0 ≤ a0) = true := decide_eq_true c4
        clear c4
        by_cases c5 : a0 < (y105.length : Int)
        · rw [if_pos c5] at H
          have c5b0 : decide (a0 < (y105.length : Int)) = true := decide_eq_true c5
          clear c5
          obtain rfl := Option.some.inj H
          go_enter Try.func16, Try.ntmps16
          go_wp2_with (first | ((with_reducible refine gate_dst (N := 9) rfl ?_); refine Kd.R_lit Kd.string _ 9 ?hg (N := 9) ?hd (xs := ([(⟨#[98, 97, 100]⟩ : ByteArray), (⟨#[115, 121, 110]⟩ : ByteArray), (⟨#[115, 121, 110, 97, 99, 107]⟩ : ByteArray), (⟨#[112, 108, 97, 105, 110]⟩ : ByteArray), (⟨#[102, 105, 110]⟩ : ByteArray), (⟨#[114, 115, 116]⟩ : ByteArray)] : List ByteArray)) (inner := [.string (⟨#[98, 97, 100]⟩ : ByteArray), .string (⟨#[115, 121, 110]⟩ : ByteArray), .string (⟨#[115, 121, 110, 97, 99, 107]⟩ : ByteArray), .string (⟨#[112, 108, 97, 105, 110]⟩ : ByteArray), .string (⟨#[102, 105, 110]⟩ : ByteArray), .string (⟨#[114, 115, 116]⟩ : ByteArray)]) (ok := fun _ => True) (okp := fun _ => True) ?hr ?hp (fun _ hk => hk) trivial (Below.refl _ _) (Nat.le_refl _) (by simp) ?_; (case hd => rfl); (case hg => rfl); (case hr => first | (go_simp; done) | (go_simp; rfl)); (case hp => exact (Reps.one (show Kd.M Kd.string _ _ _ (⟨#[98, 97, 100]⟩ : ByteArray) [.string (⟨#[98, 97, 100]⟩ : ByteArray)] from rfl) (Reps.one (show Kd.M Kd.string _ _ _ (⟨#[115, 121, 110]⟩ : ByteArray) [.string (⟨#[115, 121, 110]⟩ : ByteArray)] from rfl) (Reps.one (show Kd.M Kd.string _ _ _ (⟨#[115, 121, 110, 97, 99, 107]⟩ : ByteArray) [.string (⟨#[115, 121, 110, 97, 99, 107]⟩ : ByteArray)] from rfl) (Reps.one (show Kd.M Kd.string _ _ _ (⟨#[112, 108, 97, 105, 110]⟩ : ByteArray) [.string (⟨#[112, 108, 97, 105, 110]⟩ : ByteArray)] from rfl) (Reps.one (show Kd.M Kd.string _ _ _ (⟨#[102, 105, 110]⟩ : ByteArray) [.string (⟨#[102, 105, 110]⟩ : ByteArray)] from rfl) (Reps.one (show Kd.M Kd.string _ _ _ (⟨#[114, 115, 116]⟩ : ByteArray) [.string (⟨#[114, 115, 116]⟩ : ByteArray)] from rfl) (Reps.none _ _)))))))); intro v106 w6 ho7 hb hg_ hnew_; clear hg_ hnew_; (first | rw [← Ny105.out] at ho7 | (simp only [Int.reduceToNat] at ho7; rw [← Ny105.out] at ho7)); have n0_ := Aside0.mk (Kd.R_lower ho7 (below_size (by repeat (first | (with_reducible first | exact HB.out | apply below_alloc | apply pw_below_drewN | apply below_drew1) | exact HB.out)))); have n1_ := Aside0.mk (below_step (by repeat (first | (with_reducible first | exact HB.out | apply below_alloc | apply pw_below_drewN | apply below_drew1) | exact HB.out)) hb); clear HB; have HO107 := n0_; have HB := n1_; clear n0_ n1_; clear hb ho7; obtain ⟨Ao8, co8, eo8⟩ := Kd.R_slice HO107.out; subst eo8; have p108 : 0 ≤ (a0 : Int) := of_decide_eq_true (by first | (with_reducible assumption) | assumption); have q108 : a0 < (y105.length : Int) := of_decide_eq_true (by first | (with_reducible assumption) | assumption); obtain ⟨ad108, e108, hx108_0⟩ := Kd.at_string (Kd.R_reads' HO107.out).2.2 a0 p108 q108; cases e108; replace p108 := eq_true p108; replace q108 := eq_true q108))
          go_ret
          exact ⟨by first | rfl | (simp [errW_none, errW_some] <;> rfl) | (simp [*, errW_none, errW_some] <;> rfl), by repeat (first | (with_reducible first | exact HB.out | apply below_alloc | apply pw_below_drewN | apply below_drew1) | exact HB.out)⟩
        · rw [if_neg c5] at H
          exact absurd H (by simp)
      · rw [if_neg c4] at H
        exact absurd H (by simp)

/-! ### flags_Show: function 20 -/
mutual
def flags_Show.j0 : Nat → Int → Bool → Option (ByteArray)
  | 0, _, _ => none
  | k + 1, x0, x10 => if x10 = true then (some (⟨#[]⟩ : ByteArray)) else (flags_Show.l0 k x0 (⟨#[]⟩ : ByteArray) 0)
def flags_Show.l0 : Nat → Int → ByteArray → Int → Option (ByteArray)
  | 0, _, _, _ => none
  | k + 1, x0, x3, x11 => if x11 < 6 then (if 0 ≤ x11 then (if (Go.bits .and .i64 (shr .i64 x0 x11) 1) = 1 then (if x11 ≤ (wrap64 (x11 + 1)) then (if (wrap64 (x11 + 1)) ≤ 6 then (if x3.size + ((⟨#[70, 83, 82, 80, 65, 85]⟩ : ByteArray).extract (x11 : Int).toNat ((wrap64 (x11 + 1)) : Int).toNat).size ≤ 9223372036854775807 then (flags_Show.l0 k x0 (x3 ++ ((⟨#[70, 83, 82, 80, 65, 85]⟩ : ByteArray).extract (x11 : Int).toNat ((wrap64 (x11 + 1)) : Int).toNat)) (wrap64 (x11 + 1))) else (none)) else (none)) else (none)) else (flags_Show.l0 k x0 x3 (wrap64 (x11 + 1)))) else (none)) else (if x3.toList = ([] : List UInt8) then (some (⟨#[46]⟩ : ByteArray)) else (some x3))
end
def flags_Show.f (k : Nat) (a0 : Int) : Option (ByteArray) := if a0 < 0 then (flags_Show.j0 k a0 true) else (flags_Show.j0 k a0 (decide (a0 > 63)))
theorem flags_Show.mono_l : ∀ k, (∀ y0 y1, LeO (flags_Show.j0 k y0 y1) (flags_Show.j0 (k + 1) y0 y1)) ∧ (∀ y0 y1 y2, LeO (flags_Show.l0 k y0 y1 y2) (flags_Show.l0 (k + 1) y0 y1 y2))
  | 0 => ⟨fun _ _ r h => by simp [flags_Show.j0] at h, fun _ _ _ r h => by simp [flags_Show.l0] at h⟩
  | k + 1 => by
    obtain ⟨ih0, ih1⟩ := flags_Show.mono_l k
    refine ⟨?_, ?_⟩
    · intro y0 y1
      unfold flags_Show.j0
      repeat' first
      | (with_reducible exact ih0 _ _)
      | (with_reducible exact ih1 _ _ _)
      | (with_reducible exact LeO.refl _)
      | (with_reducible exact LeO.none _)
      | (with_reducible refine LeO.ite ?_ ?_)
      | (with_reducible refine LeO.bind ?_ (fun _ => ?_))
      | exact ih0 _ _
      | exact ih1 _ _ _
      | exact LeO.none _
      | refine LeO.ite ?_ ?_
      | refine LeO.bind ?_ (fun _ => ?_)
    · intro y0 y1 y2
      unfold flags_Show.l0
      repeat' first
      | (with_reducible exact ih0 _ _)
      | (with_reducible exact ih1 _ _ _)
      | (with_reducible exact LeO.refl _)
      | (with_reducible exact LeO.none _)
      | (with_reducible refine LeO.ite ?_ ?_)
      | (with_reducible refine LeO.bind ?_ (fun _ => ?_))
      | exact ih0 _ _
      | exact ih1 _ _ _
      | exact LeO.none _
      | refine LeO.ite ?_ ?_
      | refine LeO.bind ?_ (fun _ => ?_)
theorem flags_Show.mono : ∀ a0 k, LeO (flags_Show.f k a0) (flags_Show.f (k + 1) a0) := by
  intro a0 k
  obtain ⟨ih0, ih1⟩ := flags_Show.mono_l k
  unfold flags_Show.f
  repeat' first
      | (with_reducible exact ih0 _ _)
      | (with_reducible exact ih1 _ _ _)
      | (with_reducible exact LeO.refl _)
      | (with_reducible exact LeO.none _)
      | (with_reducible refine LeO.ite ?_ ?_)
      | (with_reducible refine LeO.bind ?_ (fun _ => ?_))
      | exact ih0 _ _
      | exact ih1 _ _ _
      | exact LeO.none _
      | refine LeO.ite ?_ ?_
      | refine LeO.bind ?_ (fun _ => ?_)
set_option maxHeartbeats 8000000 in
set_option maxRecDepth 100000 in
theorem flags_Show.calls (k : Nat) (a0 : Int) (r : ByteArray) (w : World) (h : flags_Show.f k a0 = some r) :
    Calls Try.prog 20 #[.int .i64 a0] w fun e w' => e = .returned (.string r) ∧ Drawn0 w w' := by
  have H : (if a0 < 0 then (flags_Show.j0 k a0 true) else (flags_Show.j0 k a0 (decide (a0 > 63)))) = some r := h
  clear h
  have HC2 := Aside0.mk H
  clear H
  go_enter Try.func20, Try.ntmps20
  go_upto_region 1 with (fail)
  go_cut [10] (fun v10 wc => ∃ (kq : Nat) (x10_1 : Bool), v10 = .bool x10_1 ∧ Aside0 (flags_Show.j0 kq a0 x10_1 = some r) ∧ Aside0 (kq ≤ k) ∧ Drawn0 w wc)
  case first =>
    have H := HC2.out
    clear HC2
    by_cases c3 : a0 < 0
    · rw [if_pos c3] at H
      have c3b0 : decide (a0 < 0) = true := decide_eq_true c3
      clear c3
      (first | rw [c3b0] | (simp only [i64_w, i32_w]; rw [c3b0]) | skip)
      have H' := Aside0.mk H
      clear H
      go_wp2
      go_meet
      case rel => exact ⟨_, (true), (by first | rfl | (simp; done) | (simp [*]; done)), H', ⟨by first | omega | exact Nat.le_refl _⟩, by repeat (first | exact Drawn0.refl _ | apply Drawn0.step)⟩
    · rw [if_neg c3] at H
      have c3b0 : decide (a0 < 0) = false := decide_eq_false c3
      clear c3
      (first | rw [c3b0] | (simp only [i64_w, i32_w]; rw [c3b0]) | skip)
      have H' := Aside0.mk H
      clear H
      go_wp2
      go_meet
      case rel => exact ⟨_, (decide (a0 > 63)), (by first | rfl | (simp; done) | (simp [*]; done)), H', ⟨by first | omega | exact Nat.le_refl _⟩, by repeat (first | exact Drawn0.refl _ | apply Drawn0.step)⟩
  case rest =>
    clear HC2
    try clear c2
    try clear p2
    try clear c3
    try clear c3b0
    obtain ⟨kq, x10_1, rfl, HA, HJ1, ⟨mc1, rfl⟩⟩ := hcut
    cases kq with
    | zero => exact absurd HA.out (by simp [flags_Show.j0])
    | succ kj1 =>
      have H := HA.out
      clear HA
      simp only [flags_Show.j0] at H
      by_cases c4 : x10_1 = true
      · subst c4
        have H1 : (some (⟨#[]⟩ : ByteArray)) = some r := by rw [if_pos rfl] at H; exact H
        clear H
        have H := H1
        clear H1
        obtain rfl := Option.some.inj H
        go_wp2
        go_ret
        exact ⟨by first | rfl | (simp; done) | (simp [*]; done), by repeat (first | exact Drawn0.refl _ | apply Drawn0.step)⟩
      · replace c4 := Bool.eq_false_iff.mpr c4
        subst c4
        have H1 : (flags_Show.l0 kj1 a0 (⟨#[]⟩ : ByteArray) 0) = some r := by rw [if_neg (show ¬ (false = true) by decide)] at H; exact H
        clear H
        have H := H1
        clear H1
        have H' := Aside0.mk H
        clear H
        go_wp2
        go_loopg [3, 11] kj1 (fun kq v3 v11 w' => ∃ (x3_2 : ByteArray) (x11_2 : Int), v3 = .string x3_2 ∧ v11 = .int .i64 x11_2 ∧ Aside0 (flags_Show.l0 kq a0 x3_2 x11_2 = some r) ∧ Aside0 (kq ≤ kj1) ∧ Drawn0 w w')
        case atStart => exact ⟨((⟨#[]⟩ : ByteArray)), (0), (by first | rfl | (simp; done) | (simp [*]; done)), (by first | rfl | (simp; done) | (simp [*]; done)), H', ⟨Nat.le_refl _⟩, by repeat (first | exact Drawn0.refl _ | apply Drawn0.step)⟩
        case round =>
          clear H'
          try clear c1
          try clear c2
          try clear p2
          try clear c3
          try clear c3b0
          try clear c4
          try clear p2
          obtain ⟨x3_2, x11_2, rfl, rfl, HA, HK2, ⟨m2, rfl⟩⟩ := hrel
          cases gk with
          | zero => exact absurd HA.out (by simp [flags_Show.l0])
          | succ k2 =>
            have H := HA.out
            clear HA
            simp only [flags_Show.l0] at H
            by_cases c5 : x11_2 < 6
            · rw [if_pos c5] at H
              have c5b0 : decide (x11_2 < 6) = true := decide_eq_true c5
              clear c5
              by_cases c6 : 0 ≤ x11_2
              · rw [if_pos c6] at H
                have c6b0 := eq_true c6
                have c6b1 : decide (0 ≤ x11_2) = true := decide_eq_true c6
                clear c6
                obtain ⟨ji7, hji7⟩ : ∃ j_ : Int, (shr .i64 a0 x11_2) = j_ := ⟨_, rfl⟩
                replace H : (if (Go.bits .and .i64 (ji7) 1) = 1 then (if x11_2 ≤ (wrap64 (x11_2 + 1)) then (if (wrap64 (x11_2 + 1)) ≤ 6 then (if x3_2.size + ((⟨#[70, 83, 82, 80, 65, 85]⟩ : ByteArray).extract (x11_2 : Int).toNat ((wrap64 (x11_2 + 1)) : Int).toNat).size ≤ 9223372036854775807 then (flags_Show.l0 k2 a0 (x3_2 ++ ((⟨#[70, 83, 82, 80, 65, 85]⟩ : ByteArray).extract (x11_2 : Int).toNat ((wrap64 (x11_2 + 1)) : Int).toNat)) (wrap64 (x11_2 + 1))) else (none)) else (none)) else (none)) else (flags_Show.l0 k2 a0 x3_2 (wrap64 (x11_2 + 1)))) = some r := by first | (rw [hji7] at H; exact H) | (simp only [hji7] at H ⊢; exact H)
                have hji7_ : (a0 / 2 ^ min x11_2.toNat 64) = ji7 := hji7
                have hji7z : x11_2 ≤ 64 → (a0 / 2 ^ x11_2.toNat) = ji7 := shr_small hji7
                by_cases c8 : (Go.bits .and .i64 (ji7) 1) = 1
                · rw [if_pos c8] at H
                  have c8b0 : ((Go.bits .and .i64 (ji7) 1) == 1) = true := beq_iff_eq.mpr c8
                  have c8b1 : ((Go.bits .and .i64 (ji7) 1) != 1) = false := bne_eq_false_iff_eq.mpr c8
                  clear c8
                  have c9b0 := eq_true (of_decide_eq_true (by first | (with_reducible assumption) | assumption) : 0 ≤ x11_2)
                  by_cases c10 : x11_2 ≤ (wrap64 (x11_2 + 1))
                  · rw [if_pos c10] at H
                    have c10b0 := eq_true c10
                    have c10b1 : decide (x11_2 ≤ (wrap64 (x11_2 + 1))) = true := decide_eq_true c10
                    by_cases c11 : (wrap64 (x11_2 + 1)) ≤ 6
                    · rw [if_pos c11] at H
                      have c11b0 := eq_true c11
                      have c11b1 : decide ((wrap64 (x11_2 + 1)) ≤ 6) = true := decide_eq_true c11
                      by_cases c12 : x3_2.size + ((⟨#[70, 83, 82, 80, 65, 85]⟩ : ByteArray).extract (x11_2 : Int).toNat ((wrap64 (x11_2 + 1)) : Int).toNat).size ≤ 9223372036854775807
                      · rw [if_pos c12] at H
                        have c12b0 := eq_true c12
                        have c12b1 : decide (x3_2.size + ((⟨#[70, 83, 82, 80, 65, 85]⟩ : ByteArray).extract (x11_2 : Int).toNat ((wrap64 (x11_2 + 1)) : Int).toNat).size ≤ 9223372036854775807) = true := decide_eq_true c12
                        try have c12b2 : (9223372036854775807 < x3_2.size + ((⟨#[70, 83, 82, 80, 65, 85]⟩ : ByteArray).extract (x11_2 : Int).toNat ((wrap64 (x11_2 + 1)) : Int).toNat).size) = False := eq_false (Nat.not_lt.2 c12)
                        have H' := Aside0.mk H
                        clear H
                        go_wp2
                        go_roundg k2
                        case measure => have := HJ1.out; have := HK2.out; omega
                        case rel => exact ⟨(x3_2 ++ ((⟨#[70, 83, 82, 80, 65, 85]⟩ : ByteArray).extract (x11_2 : Int).toNat ((wrap64 (x11_2 + 1)) : Int).toNat)), (wrap64 (x11_2 + 1)), (by first | rfl | (simp; done) | (simp [*]; done)), (by first | rfl | (simp; done) | (simp [*]; done)), H', ⟨by have := HJ1.out; have := HK2.out; omega⟩, by repeat (first | exact Drawn0.refl _ | apply Drawn0.step)⟩
                      · rw [if_neg c12] at H
                        exact absurd H (by simp)
                    · rw [if_neg c11] at H
                      exact absurd H (by simp)
                  · rw [if_neg c10] at H
                    exact absurd H (by simp)
                · rw [if_neg c8] at H
                  have c8b0 : ((Go.bits .and .i64 (ji7) 1) == 1) = false := beq_eq_false_iff_ne.mpr c8
                  have c8b1 : ((Go.bits .and .i64 (ji7) 1) != 1) = true := bne_iff_ne.mpr c8
                  have H' := Aside0.mk H
                  clear H
                  go_wp2
                  go_roundg k2
                  case measure => have := HJ1.out; have := HK2.out; omega
                  case rel => exact ⟨(x3_2), (wrap64 (x11_2 + 1)), (by first | rfl | (simp; done) | (simp [*]; done)), (by first | rfl | (simp; done) | (simp [*]; done)), H', ⟨by have := HJ1.out; have := HK2.out; omega⟩, by repeat (first | exact Drawn0.refl _ | apply Drawn0.step)⟩
              · rw [if_neg c6] at H
                exact absurd H (by simp)
            · rw [if_neg c5] at H
              have c5b0 : decide (x11_2 < 6) = false := decide_eq_false c5
              clear c5
              by_cases c13 : x3_2.toList = ([] : List UInt8)
              · rw [if_pos c13] at H
                have c13b0 : (x3_2.toList == ([] : List UInt8)) = true := beq_iff_eq.mpr c13
                have c13b1 : (x3_2.toList != ([] : List UInt8)) = false := bne_eq_false_iff_eq.mpr c13
                clear c13
                obtain rfl := Option.some.inj H
                go_wp2
                go_ret
                exact ⟨by first | rfl | (simp; done) | (simp [*]; done), by repeat (first | exact Drawn0.refl _ | apply Drawn0.step)⟩
              · rw [if_neg c13] at H
                have c13b0 : (x3_2.toList == ([] : List UInt8)) = false := beq_eq_false_iff_ne.mpr c13
                have c13b1 : (x3_2.toList != ([] : List UInt8)) = true := bne_iff_ne.mpr c13
                obtain rfl := Option.some.inj H
                go_wp2
                go_ret
                exact ⟨by first | rfl | (simp; done) | (simp [*]; done), by repeat (first | exact Drawn0.refl _ | apply Drawn0.step)⟩

end Go.Proofs.Ytaemgicmbnmecaa.PAll
