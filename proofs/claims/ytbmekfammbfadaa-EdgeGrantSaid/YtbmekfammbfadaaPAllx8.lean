-- Written by a program of this work (wip/mkprint.py, wip/myprint.sh) out of the translation; not trusted: Lean checks it.
import Derived.Test.YtbmekfammbfadaaPAllx0
import Derived.Test.YtbmekfammbfadaaPAllx2
import Derived.Test.YtbmekfammbfadaaPAllx6
import Derived.Test.YtbmekfammbfadaaPAllx7
namespace Go.Proofs.Ytbmekfammbfadaa.PAll
open Go.RowKit Go.Proofs.YtbmekfammbfadaaW.PrintWords Go.Proofs.YtbmekfammbfadaaW.PrintLast Go.Proofs.YtbmekfammbfadaaW.PrintMore
attribute [local go_sem] max2_int min2_int max_two min_two max_three min_three max_four min_four   -- for this text's walks alone
set_option linter.unusedVariables false
set_option linter.unusedSimpArgs false

/-! ### rampartlaw16_known: function 30 (by hand) -/
theorem rampartlaw16_known.row_one {w : World} {g : Nat} {b : S49} {t : TypeId} (h : w.heap[g]? = some (.cells #[.int .u32 b.f0, .int .u32 b.f1] t (0, 0))) : Kd.C k49 w (some ⟨g, 0, none⟩) 1 [b] := by
  refine ⟨rfl, by decide, fun _ => ⟨⟨g, 0, none⟩, rfl, fun j p hj => ?_⟩⟩
  cases j with
  | succ j => simp at hj
  | zero =>
    obtain rfl := Option.some.inj hj
    refine ⟨[.int .u32 b.f0, .int .u32 b.f1], rfl, k49_mk w b, fun i u hu => ?_⟩
    have h2 : (⟨g, 0, none⟩ : Addr).add (0 * 2 + i) = ⟨g, i, none⟩ := by
      unfold Addr.add
      cases i with
      | zero => rfl
      | succ i => simp
    show w.cell? ((⟨g, 0, none⟩ : Addr).add (0 * 2 + i)) = some u
    rw [h2, blk_cell h i, ← hu]
    simp
def rampartlaw16_known.f : Option (Bool) := some true
set_option maxHeartbeats 8000000 in
set_option maxRecDepth 100000 in
theorem rampartlaw16_known.calls (r : Bool) (w : World) (h : rampartlaw16_known.f = some r) : Calls Try.prog 30 #[] w fun e w' => e = .returned (.bool r) ∧ Below w.heap.size w w' := by
  obtain rfl := Option.some.inj h
  have hu38 := Try.underlying38
  have hu49 := Try.underlying49
  have hu36 := Try.underlying36
  have HB1_ : Aside0 (Below w.heap.size w w) := ⟨Below.refl _ _⟩
  go_enter Try.func30, Try.ntmps30
  have BK2_ : Aside0 ((w.alloc (.cells #[.int .u32 15, .int .u32 20] 49)).heap[w.heap.size]? = some (.cells #[.int .u32 15, .int .u32 20] 49)) := ⟨World_.alloc_at (by first | rfl | simp only [World_.size_al]) _⟩
  have HB3_ : Aside0 (Below w.heap.size w (w.alloc (.cells #[.int .u32 15, .int .u32 20] 49))) := ⟨HB1_.out.alloc HB1_.out.size _⟩
  clear HB1_
  have BK4_ := Aside0.mk (World_.alloc_old BK2_.out (.cells #[.int .i64 0, .int .i64 0, .int .u32 4294967295, .int .u32 10, .int .i64 17, .int .i64 100, .int .i64 0, .int .i64 0, .int .i64 0, .bool false, .slice (some ⟨w.heap.size, 0, none⟩) 1 1, .bool false, .int .u32 0, .int .u32 0, .string ⟨#[97, 98]⟩] 38))
  have BK5_ : Aside0 (((w.alloc (.cells #[.int .u32 15, .int .u32 20] 49)).alloc (.cells #[.int .i64 0, .int .i64 0, .int .u32 4294967295, .int .u32 10, .int .i64 17, .int .i64 100, .int .i64 0, .int .i64 0, .int .i64 0, .bool false, .slice (some ⟨w.heap.size, 0, none⟩) 1 1, .bool false, .int .u32 0, .int .u32 0, .string ⟨#[97, 98]⟩] 38)).heap[(w.heap.size + 1)]? = some (.cells #[.int .i64 0, .int .i64 0, .int .u32 4294967295, .int .u32 10, .int .i64 17, .int .i64 100, .int .i64 0, .int .i64 0, .int .i64 0, .bool false, .slice (some ⟨w.heap.size, 0, none⟩) 1 1, .bool false, .int .u32 0, .int .u32 0, .string ⟨#[97, 98]⟩] 38)) := ⟨World_.alloc_at (by first | rfl | simp only [World_.size_al]) _⟩
  have HB6_ : Aside0 (Below w.heap.size w ((w.alloc (.cells #[.int .u32 15, .int .u32 20] 49)).alloc (.cells #[.int .i64 0, .int .i64 0, .int .u32 4294967295, .int .u32 10, .int .i64 17, .int .i64 100, .int .i64 0, .int .i64 0, .int .i64 0, .bool false, .slice (some ⟨w.heap.size, 0, none⟩) 1 1, .bool false, .int .u32 0, .int .u32 0, .string ⟨#[97, 98]⟩] 38))) := ⟨HB3_.out.alloc HB3_.out.size _⟩
  clear HB3_ BK2_
  have OK7_ : Aside0 (Kd.C k49 ((w.alloc (.cells #[.int .u32 15, .int .u32 20] 49)).alloc (.cells #[.int .i64 0, .int .i64 0, .int .u32 4294967295, .int .u32 10, .int .i64 17, .int .i64 100, .int .i64 0, .int .i64 0, .int .i64 0, .bool false, .slice (some ⟨w.heap.size, 0, none⟩) 1 1, .bool false, .int .u32 0, .int .u32 0, .string ⟨#[97, 98]⟩] 38)) (some ⟨w.heap.size, 0, none⟩) 1 [⟨15, 20⟩]) := ⟨rampartlaw16_known.row_one (b := ⟨15, 20⟩) BK4_.out⟩
  go_wp2_with (fail)
  refine (edge_Agree.calls 3 (-1) 0 0 _ (by decide +kernel)).mono ?_
  rintro e w1 ⟨rfl, hb1⟩
  have BK8_ : Aside0 (w1.heap[(w.heap.size + 1)]? = some (.cells #[.int .i64 0, .int .i64 0, .int .u32 4294967295, .int .u32 10, .int .i64 17, .int .i64 100, .int .i64 0, .int .i64 0, .int .i64 0, .bool false, .slice (some ⟨w.heap.size, 0, none⟩) 1 1, .bool false, .int .u32 0, .int .u32 0, .string ⟨#[97, 98]⟩] 38 (0, 0))) := ⟨World_.keep BK5_.out hb1⟩
  have OK9_ : Aside0 (Kd.C k49 w1 (some ⟨w.heap.size, 0, none⟩) 1 [⟨15, 20⟩]) := ⟨Kd.C_below (OK7_.out) hb1⟩
  clear OK7_
  have HB10_ : Aside0 (Below w.heap.size w w1) := ⟨below_then HB6_.out HB6_.out.size hb1⟩
  have HZ11_ := Aside0.mk hb1.size
  clear hb1 HB6_ HZ11_ BK5_
  obtain ⟨hc12_, hf13_⟩ := World_.blk_all BK8_.out
  go_wp2_with (fail)
  refine (edge_Agree.calls 3 15 3 14 _ (by decide +kernel)).mono ?_
  rintro e w2 ⟨rfl, hb2⟩
  clear hc12_ hf13_
  have BK14_ : Aside0 (w2.heap[(w.heap.size + 1)]? = some (.cells #[.int .i64 0, .int .i64 0, .int .u32 4294967295, .int .u32 10, .int .i64 17, .int .i64 100, .int .i64 0, .int .i64 0, .int .i64 0, .bool false, .slice (some ⟨w.heap.size, 0, none⟩) 1 1, .bool false, .int .u32 0, .int .u32 0, .string ⟨#[97, 98]⟩] 38 (0, 0))) := ⟨World_.keep BK8_.out hb2⟩
  have OK15_ : Aside0 (Kd.C k49 w2 (some ⟨w.heap.size, 0, none⟩) 1 [⟨15, 20⟩]) := ⟨Kd.C_below (OK9_.out) hb2⟩
  clear OK9_
  have HB16_ : Aside0 (Below w.heap.size w w2) := ⟨below_then HB10_.out HB10_.out.size hb2⟩
  have HZ17_ := Aside0.mk hb2.size
  clear hb2 HB10_ HZ17_ BK8_
  obtain ⟨hc18_, hf19_⟩ := World_.blk_all BK14_.out
  go_wp2_with (fail)
  refine (edge_End.calls 3 0 0 4294967295 10 17 100 0 0 0 false (some ⟨w.heap.size, 0, none⟩) 1 [⟨15, 20⟩] false 0 0 ⟨#[97, 98]⟩ 2 _ (by exact OK15_.out) (Nat.le_refl _) (by decide +kernel)).mono ?_
  rintro e w3 ⟨rfl, hb3⟩
  clear hc18_ hf19_
  have BK20_ : Aside0 (w3.heap[(w.heap.size + 1)]? = some (.cells #[.int .i64 0, .int .i64 0, .int .u32 4294967295, .int .u32 10, .int .i64 17, .int .i64 100, .int .i64 0, .int .i64 0, .int .i64 0, .bool false, .slice (some ⟨w.heap.size, 0, none⟩) 1 1, .bool false, .int .u32 0, .int .u32 0, .string ⟨#[97, 98]⟩] 38 (0, 0))) := ⟨World_.keep BK14_.out hb3⟩
  have OK21_ : Aside0 (Kd.C k49 w3 (some ⟨w.heap.size, 0, none⟩) 1 [⟨15, 20⟩]) := ⟨Kd.C_below (OK15_.out) hb3⟩
  clear OK15_
  have HB22_ : Aside0 (Below w.heap.size w w3) := ⟨below_then HB16_.out HB16_.out.size hb3⟩
  have HZ23_ := Aside0.mk hb3.size
  clear hb3 HB16_ HZ23_ BK14_
  obtain ⟨hc24_, hf25_⟩ := World_.blk_all BK20_.out
  go_wp2_with (fail)
  refine (edge_Shift.calls 100 3 false 800 _ (by decide +kernel)).mono ?_
  rintro e w4 ⟨rfl, hb4⟩
  clear hc24_ hf25_
  have BK26_ : Aside0 (w4.heap[(w.heap.size + 1)]? = some (.cells #[.int .i64 0, .int .i64 0, .int .u32 4294967295, .int .u32 10, .int .i64 17, .int .i64 100, .int .i64 0, .int .i64 0, .int .i64 0, .bool false, .slice (some ⟨w.heap.size, 0, none⟩) 1 1, .bool false, .int .u32 0, .int .u32 0, .string ⟨#[97, 98]⟩] 38 (0, 0))) := ⟨World_.keep BK20_.out hb4⟩
  have OK27_ : Aside0 (Kd.C k49 w4 (some ⟨w.heap.size, 0, none⟩) 1 [⟨15, 20⟩]) := ⟨Kd.C_below (OK21_.out) hb4⟩
  clear OK21_
  have HB28_ : Aside0 (Below w.heap.size w w4) := ⟨below_then HB22_.out HB22_.out.size hb4⟩
  have HZ29_ := Aside0.mk hb4.size
  clear hb4 HB22_ HZ29_ BK20_
  obtain ⟨hc30_, hf31_⟩ := World_.blk_all BK26_.out
  go_wp2_with (fail)
  refine (edge_Shift.calls 100 3 true 100 _ (by decide +kernel)).mono ?_
  rintro e w5 ⟨rfl, hb5⟩
  clear hc30_ hf31_
  have BK32_ : Aside0 (w5.heap[(w.heap.size + 1)]? = some (.cells #[.int .i64 0, .int .i64 0, .int .u32 4294967295, .int .u32 10, .int .i64 17, .int .i64 100, .int .i64 0, .int .i64 0, .int .i64 0, .bool false, .slice (some ⟨w.heap.size, 0, none⟩) 1 1, .bool false, .int .u32 0, .int .u32 0, .string ⟨#[97, 98]⟩] 38 (0, 0))) := ⟨World_.keep BK26_.out hb5⟩
  have OK33_ : Aside0 (Kd.C k49 w5 (some ⟨w.heap.size, 0, none⟩) 1 [⟨15, 20⟩]) := ⟨Kd.C_below (OK27_.out) hb5⟩
  clear OK27_
  have HB34_ : Aside0 (Below w.heap.size w w5) := ⟨below_then HB28_.out HB28_.out.size hb5⟩
  have HZ35_ := Aside0.mk hb5.size
  clear hb5 HB28_ HZ35_ BK26_
  obtain ⟨hc36_, hf37_⟩ := World_.blk_all BK32_.out
  go_wp2_with (fail)
  refine (edge_Last.calls 0 0 4294967295 10 17 100 0 0 0 false (some ⟨w.heap.size, 0, none⟩) 1 [⟨15, 20⟩] false 0 0 ⟨#[97, 98]⟩ 20 _ (by exact OK33_.out) (Nat.le_refl _) (by decide +kernel)).mono ?_
  rintro e w6 ⟨rfl, hb6⟩
  clear hc36_ hf37_
  have BK38_ : Aside0 (w6.heap[(w.heap.size + 1)]? = some (.cells #[.int .i64 0, .int .i64 0, .int .u32 4294967295, .int .u32 10, .int .i64 17, .int .i64 100, .int .i64 0, .int .i64 0, .int .i64 0, .bool false, .slice (some ⟨w.heap.size, 0, none⟩) 1 1, .bool false, .int .u32 0, .int .u32 0, .string ⟨#[97, 98]⟩] 38 (0, 0))) := ⟨World_.keep BK32_.out hb6⟩
  have OK39_ : Aside0 (Kd.C k49 w6 (some ⟨w.heap.size, 0, none⟩) 1 [⟨15, 20⟩]) := ⟨Kd.C_below (OK33_.out) hb6⟩
  clear OK33_
  have HB40_ : Aside0 (Below w.heap.size w w6) := ⟨below_then HB34_.out HB34_.out.size hb6⟩
  have HZ41_ := Aside0.mk hb6.size
  clear hb6 HB34_ HZ41_ BK32_
  obtain ⟨hc42_, hf43_⟩ := World_.blk_all BK38_.out
  go_wp2_with (fail)
  refine (edge_Grant.calls 0 0 4294967295 10 17 100 0 0 0 false (some ⟨w.heap.size, 0, none⟩) 1 [⟨15, 20⟩] false 0 0 ⟨#[97, 98]⟩ 1 220 _ (by exact OK39_.out) (Nat.le_refl _) (by decide +kernel)).mono ?_
  rintro e w7 ⟨rfl, hb7⟩
  clear hc42_ hf43_
  have BK44_ : Aside0 (w7.heap[(w.heap.size + 1)]? = some (.cells #[.int .i64 0, .int .i64 0, .int .u32 4294967295, .int .u32 10, .int .i64 17, .int .i64 100, .int .i64 0, .int .i64 0, .int .i64 0, .bool false, .slice (some ⟨w.heap.size, 0, none⟩) 1 1, .bool false, .int .u32 0, .int .u32 0, .string ⟨#[97, 98]⟩] 38 (0, 0))) := ⟨World_.keep BK38_.out hb7⟩
  have OK45_ : Aside0 (Kd.C k49 w7 (some ⟨w.heap.size, 0, none⟩) 1 [⟨15, 20⟩]) := ⟨Kd.C_below (OK39_.out) hb7⟩
  clear OK39_
  have HB46_ : Aside0 (Below w.heap.size w w7) := ⟨below_then HB40_.out HB40_.out.size hb7⟩
  have HZ47_ := Aside0.mk hb7.size
  clear hb7 HB40_ HZ47_ BK38_
  obtain ⟨hc48_, hf49_⟩ := World_.blk_all BK44_.out
  go_wp2
  go_ret
  exact ⟨by first | rfl | (simp; done), by first | exact HB46_.out | (repeat (first | exact HB46_.out | apply below_alloc | apply pw_below_drewN | apply below_drew1))⟩

/-! ### rampartref16_Agree: function 32 -/
def rampartref16_Agree.f (a0 : Int) (a1 : Int) : Option (Int × Int) := if a0 < 0 then (some (0, 0)) else (if a1 < 0 then (some (0, 0)) else (some (mn a0 14, mn a1 14)))
set_option maxHeartbeats 8000000 in
set_option maxRecDepth 100000 in
theorem rampartref16_Agree.calls (a0 : Int) (a1 : Int) (r1 : Int) (r2 : Int) (w : World) (h : rampartref16_Agree.f a0 a1 = some (r1, r2)) :
    Calls Try.prog 32 #[.int .i64 a0, .int .i64 a1] w fun e w' => e = .returned (.tuple #[.int .i64 r1, .int .i64 r2]) ∧ Below w.heap.size w w' := by
  have HB := Aside0.mk (Below.refl w.heap.size w)
  have H : (if a0 < 0 then (some (0, 0)) else (if a1 < 0 then (some (0, 0)) else (some (mn a0 14, mn a1 14)))) = some (r1, r2) := h
  clear h
  by_cases c3 : a0 < 0
  · rw [if_pos c3] at H
    have c3b0 : decide (a0 < 0) = true := decide_eq_true c3
    clear c3
    simp only [Option.some.injEq, Prod.mk.injEq] at H
    obtain ⟨rfl, rfl⟩ := H
    go_enter Try.func32, Try.ntmps32
    go_wp2
    go_ret2
    exact ⟨by first | rfl | (simp [errW_none, errW_some] <;> rfl) | (simp [*, errW_none, errW_some] <;> rfl), by repeat (first | (with_reducible first | exact HB.out | apply below_alloc | apply pw_below_drewN | apply below_drew1) | exact HB.out)⟩
  · rw [if_neg c3] at H
    have c3b0 : decide (a0 < 0) = false := decide_eq_false c3
    clear c3
    by_cases c4 : a1 < 0
    · rw [if_pos c4] at H
      have c4b0 : decide (a1 < 0) = true := decide_eq_true c4
      clear c4
      simp only [Option.some.injEq, Prod.mk.injEq] at H
      obtain ⟨rfl, rfl⟩ := H
      go_enter Try.func32, Try.ntmps32
      go_wp2
      go_ret2
      exact ⟨by first | rfl | (simp [errW_none, errW_some] <;> rfl) | (simp [*, errW_none, errW_some] <;> rfl), by repeat (first | (with_reducible first | exact HB.out | apply below_alloc | apply pw_below_drewN | apply below_drew1) | exact HB.out)⟩
    · rw [if_neg c4] at H
      have c4b0 : decide (a1 < 0) = false := decide_eq_false c4
      clear c4
      obtain ⟨ji5, hji5⟩ : ∃ j_ : Int, (mn a0 14) = j_ := ⟨_, rfl⟩
      replace H : (some (ji5, mn a1 14)) = some (r1, r2) := by first | (rw [hji5] at H; exact H) | (simp only [hji5] at H ⊢; exact H)
      (try (have hji5h : ji5 ≤ 14 := by (rw [← hji5]; unfold mn; (repeat' split) <;> omega)))
      (try (have hji5g : ji5 ≤ 64 := by omega))
      have hji5_ : (if 14 < a0 then 14 else a0) = ji5 := hji5
      obtain ⟨ji6, hji6⟩ : ∃ j_ : Int, (mn a1 14) = j_ := ⟨_, rfl⟩
      replace H : (some (ji5, ji6)) = some (r1, r2) := by first | (rw [hji6] at H; exact H) | (simp only [hji6] at H ⊢; exact H)
      (try (have hji6h : ji6 ≤ 14 := by (rw [← hji6]; unfold mn; (repeat' split) <;> omega)))
      (try (have hji6g : ji6 ≤ 64 := by omega))
      have hji6_ : (if 14 < a1 then 14 else a1) = ji6 := hji6
      simp only [Option.some.injEq, Prod.mk.injEq] at H
      obtain ⟨rfl, rfl⟩ := H
      go_enter Try.func32, Try.ntmps32
      go_wp2
      go_ret2
      exact ⟨by first | rfl | (simp [errW_none, errW_some] <;> rfl) | (simp only [← hji5, ← hji6]; first | rfl | (simp [errW_none, errW_some] <;> rfl)) | (simp [*, errW_none, errW_some] <;> rfl), by repeat (first | (with_reducible first | exact HB.out | apply below_alloc | apply pw_below_drewN | apply below_drew1) | exact HB.out)⟩

/-! ### rampartref08_Len: function 48 -/
def rampartref08_Len.f (a0_0 : Int) (a0_1 : Int) (a0_2 : Int) (a0_3 : Int) (a0_4 : Int) (a0_5 : Int) (a0_6 : Int) (a0_7 : Int) (a0_8 : Int) (a0_9 : Bool) (l0_10 : List (S49)) (a0_11 : Bool) (a0_12 : Int) (a0_13 : Int) (a0_14 : ByteArray) : Option (Int) := if (Go.bits .and .i64 a0_4 2) = 0 then (if (Go.bits .and .i64 a0_4 1) = 0 then (some (a0_14.size : Int)) else (some (wrap64 ((a0_14.size : Int) + 1)))) else (if (Go.bits .and .i64 a0_4 1) = 0 then (some (wrap64 ((a0_14.size : Int) + 1))) else (some (wrap64 ((wrap64 ((a0_14.size : Int) + 1)) + 1))))
set_option maxHeartbeats 8000000 in
set_option maxRecDepth 100000 in
theorem rampartref08_Len.calls (a0_0 : Int) (a0_1 : Int) (a0_2 : Int) (a0_3 : Int) (a0_4 : Int) (a0_5 : Int) (a0_6 : Int) (a0_7 : Int) (a0_8 : Int) (a0_9 : Bool) (A0_10 : Option Addr) (c0_10 : Nat) (l0_10 : List (S49)) (a0_11 : Bool) (a0_12 : Int) (a0_13 : Int) (a0_14 : ByteArray) (r : Int) (w : World) (hr0_10 : Kd.C k49 w A0_10 l0_10.length l0_10) (hc0_10 : l0_10.length ≤ c0_10) (h : rampartref08_Len.f a0_0 a0_1 a0_2 a0_3 a0_4 a0_5 a0_6 a0_7 a0_8 a0_9 l0_10 a0_11 a0_12 a0_13 a0_14 = some r) :
    Calls Try.prog 48 #[.agg #[.int .i64 a0_0, .int .i64 a0_1, .int .u32 a0_2, .int .u32 a0_3, .int .i64 a0_4, .int .i64 a0_5, .int .i64 a0_6, .int .i64 a0_7, .int .i64 a0_8, .bool a0_9, .slice A0_10 l0_10.length c0_10, .bool a0_11, .int .u32 a0_12, .int .u32 a0_13, .string a0_14]] w fun e w' => e = .returned (.int .i64 r) ∧ Below w.heap.size w w' := by
  have hu38 := Try.underlying38
  have HR0_10 := Aside0.mk hr0_10
  have HC0_10 := Aside0.mk hc0_10
  clear hr0_10 hc0_10
  have HB := Aside0.mk (Below.refl w.heap.size w)
  have H : (if (Go.bits .and .i64 a0_4 2) = 0 then (if (Go.bits .and .i64 a0_4 1) = 0 then (some (a0_14.size : Int)) else (some (wrap64 ((a0_14.size : Int) + 1)))) else (if (Go.bits .and .i64 a0_4 1) = 0 then (some (wrap64 ((a0_14.size : Int) + 1))) else (some (wrap64 ((wrap64 ((a0_14.size : Int) + 1)) + 1))))) = some r := h
  clear h
  by_cases c2 : (Go.bits .and .i64 a0_4 2) = 0
  · rw [if_pos c2] at H
    have c2b0 : ((Go.bits .and .i64 a0_4 2) == 0) = true := beq_iff_eq.mpr c2
    have c2b1 : ((Go.bits .and .i64 a0_4 2) != 0) = false := bne_eq_false_iff_eq.mpr c2
    clear c2
    by_cases c3 : (Go.bits .and .i64 a0_4 1) = 0
    · rw [if_pos c3] at H
      have c3b0 : ((Go.bits .and .i64 a0_4 1) == 0) = true := beq_iff_eq.mpr c3
      have c3b1 : ((Go.bits .and .i64 a0_4 1) != 0) = false := bne_eq_false_iff_eq.mpr c3
      clear c3
      obtain rfl := Option.some.inj H
      go_enter Try.func48, Try.ntmps48
      go_wp2_with (first | ((with_reducible refine gate_dst (N := 1) rfl ?_); refine box_event ?hg (N := 1) ?hd (cs := #[.int .i64 a0_0, .int .i64 a0_1, .int .u32 a0_2, .int .u32 a0_3, .int .i64 a0_4, .int .i64 a0_5, .int .i64 a0_6, .int .i64 a0_7, .int .i64 a0_8, .bool a0_9, .slice A0_10 l0_10.length c0_10, .bool a0_11, .int .u32 a0_12, .int .u32 a0_13, .string a0_14]) (t := 38) ?hr ?_; (case hd => rfl); (case hg => rfl); (case hr => first | (go_simp; done) | (go_simp; rfl)); intro gb190 hg w4 hbox hb; have n0_ := Aside0.mk (below_step (by repeat (first | (with_reducible first | exact HB.out | apply below_alloc | apply pw_below_drewN | apply below_drew1) | exact HB.out)) hb); have n1_ := Aside0.mk (hbox); have n2_ := Aside0.mk ((by rw [hg]; exact (below_size (by repeat (first | (with_reducible first | exact HB.out | apply below_alloc | apply pw_below_drewN | apply below_drew1) | exact HB.out))) : w.heap.size ≤ gb190)); have n3_ := Aside0.mk ((by rw [hg]; exact (below_size (by repeat (first | (with_reducible first | exact HB.out | apply below_alloc | apply pw_below_drewN | apply below_drew1) | exact HB.out))) : w.heap.size ≤ gb190)); clear HB; have HB := n0_; have BK190 := n1_; have GW190 := n2_; have GE190 := n3_; clear n0_ n1_ n2_ n3_; clear hb hbox hg; have hcz5_0 : w4.cell? ⟨gb190, 0, none⟩ = some (.int .i64 a0_0) := (blk_cell BK190.out 0).trans rfl; have hcz5_1 : w4.cell? ⟨gb190, 1, none⟩ = some (.int .i64 a0_1) := (blk_cell BK190.out 1).trans rfl; have hcz5_2 : w4.cell? ⟨gb190, 2, none⟩ = some (.int .u32 a0_2) := (blk_cell BK190.out 2).trans rfl; have hcz5_3 : w4.cell? ⟨gb190, 3, none⟩ = some (.int .u32 a0_3) := (blk_cell BK190.out 3).trans rfl; have hcz5_4 : w4.cell? ⟨gb190, 4, none⟩ = some (.int .i64 a0_4) := (blk_cell BK190.out 4).trans rfl; have hcz5_5 : w4.cell? ⟨gb190, 5, none⟩ = some (.int .i64 a0_5) := (blk_cell BK190.out 5).trans rfl; have hcz5_6 : w4.cell? ⟨gb190, 6, none⟩ = some (.int .i64 a0_6) := (blk_cell BK190.out 6).trans rfl; have hcz5_7 : w4.cell? ⟨gb190, 7, none⟩ = some (.int .i64 a0_7) := (blk_cell BK190.out 7).trans rfl; have hcz5_8 : w4.cell? ⟨gb190, 8, none⟩ = some (.int .i64 a0_8) := (blk_cell BK190.out 8).trans rfl; have hcz5_9 : w4.cell? ⟨gb190, 9, none⟩ = some (.bool a0_9) := (blk_cell BK190.out 9).trans rfl; have hcz5_10 : w4.cell? ⟨gb190, 10, none⟩ = some (.slice A0_10 l0_10.length c0_10) := (blk_cell BK190.out 10).trans rfl; have hcz5_11 : w4.cell? ⟨gb190, 11, none⟩ = some (.bool a0_11) := (blk_cell BK190.out 11).trans rfl; have hcz5_12 : w4.cell? ⟨gb190, 12, none⟩ = some (.int .u32 a0_12) := (blk_cell BK190.out 12).trans rfl; have hcz5_13 : w4.cell? ⟨gb190, 13, none⟩ = some (.int .u32 a0_13) := (blk_cell BK190.out 13).trans rfl; have hcz5_14 : w4.cell? ⟨gb190, 14, none⟩ = some (.string a0_14) := (blk_cell BK190.out 14).trans rfl; have hfz5_0 := blk_frozen BK190.out 0; have hfz5_1 := blk_frozen BK190.out 1; have hfz5_2 := blk_frozen BK190.out 2; have hfz5_3 := blk_frozen BK190.out 3; have hfz5_4 := blk_frozen BK190.out 4; have hfz5_5 := blk_frozen BK190.out 5; have hfz5_6 := blk_frozen BK190.out 6; have hfz5_7 := blk_frozen BK190.out 7; have hfz5_8 := blk_frozen BK190.out 8; have hfz5_9 := blk_frozen BK190.out 9; have hfz5_10 := blk_frozen BK190.out 10; have hfz5_11 := blk_frozen BK190.out 11; have hfz5_12 := blk_frozen BK190.out 12; have hfz5_13 := blk_frozen BK190.out 13; have hfz5_14 := blk_frozen BK190.out 14))
      go_ret
      exact ⟨by first | rfl | (simp [errW_none, errW_some] <;> rfl) | (simp [*, errW_none, errW_some] <;> rfl), by repeat (first | (with_reducible first | exact HB.out | apply below_alloc | apply pw_below_drewN | apply below_drew1 | refine below_set ?_ GE190.out) | exact HB.out)⟩
    · rw [if_neg c3] at H
      have c3b0 : ((Go.bits .and .i64 a0_4 1) == 0) = false := beq_eq_false_iff_ne.mpr c3
      have c3b1 : ((Go.bits .and .i64 a0_4 1) != 0) = true := bne_iff_ne.mpr c3
      obtain rfl := Option.some.inj H
      go_enter Try.func48, Try.ntmps48
      go_wp2_with (first | ((with_reducible refine gate_dst (N := 1) rfl ?_); refine box_event ?hg (N := 1) ?hd (cs := #[.int .i64 a0_0, .int .i64 a0_1, .int .u32 a0_2, .int .u32 a0_3, .int .i64 a0_4, .int .i64 a0_5, .int .i64 a0_6, .int .i64 a0_7, .int .i64 a0_8, .bool a0_9, .slice A0_10 l0_10.length c0_10, .bool a0_11, .int .u32 a0_12, .int .u32 a0_13, .string a0_14]) (t := 38) ?hr ?_; (case hd => rfl); (case hg => rfl); (case hr => first | (go_simp; done) | (go_simp; rfl)); intro gb190 hg w6 hbox hb; have n0_ := Aside0.mk (below_step (by repeat (first | (with_reducible first | exact HB.out | apply below_alloc | apply pw_below_drewN | apply below_drew1) | exact HB.out)) hb); have n1_ := Aside0.mk (hbox); have n2_ := Aside0.mk ((by rw [hg]; exact (below_size (by repeat (first | (with_reducible first | exact HB.out | apply below_alloc | apply pw_below_drewN | apply below_drew1) | exact HB.out))) : w.heap.size ≤ gb190)); have n3_ := Aside0.mk ((by rw [hg]; exact (below_size (by repeat (first | (with_reducible first | exact HB.out | apply below_alloc | apply pw_below_drewN | apply below_drew1) | exact HB.out))) : w.heap.size ≤ gb190)); clear HB; have HB := n0_; have BK190 := n1_; have GW190 := n2_; have GE190 := n3_; clear n0_ n1_ n2_ n3_; clear hb hbox hg; have hcz7_0 : w6.cell? ⟨gb190, 0, none⟩ = some (.int .i64 a0_0) := (blk_cell BK190.out 0).trans rfl; have hcz7_1 : w6.cell? ⟨gb190, 1, none⟩ = some (.int .i64 a0_1) := (blk_cell BK190.out 1).trans rfl; have hcz7_2 : w6.cell? ⟨gb190, 2, none⟩ = some (.int .u32 a0_2) := (blk_cell BK190.out 2).trans rfl; have hcz7_3 : w6.cell? ⟨gb190, 3, none⟩ = some (.int .u32 a0_3) := (blk_cell BK190.out 3).trans rfl; have hcz7_4 : w6.cell? ⟨gb190, 4, none⟩ = some (.int .i64 a0_4) := (blk_cell BK190.out 4).trans rfl; have hcz7_5 : w6.cell? ⟨gb190, 5, none⟩ = some (.int .i64 a0_5) := (blk_cell BK190.out 5).trans rfl; have hcz7_6 : w6.cell? ⟨gb190, 6, none⟩ = some (.int .i64 a0_6) := (blk_cell BK190.out 6).trans rfl; have hcz7_7 : w6.cell? ⟨gb190, 7, none⟩ = some (.int .i64 a0_7) := (blk_cell BK190.out 7).trans rfl; have hcz7_8 : w6.cell? ⟨gb190, 8, none⟩ = some (.int .i64 a0_8) := (blk_cell BK190.out 8).trans rfl; have hcz7_9 : w6.cell? ⟨gb190, 9, none⟩ = some (.bool a0_9) := (blk_cell BK190.out 9).trans rfl; have hcz7_10 : w6.cell? ⟨gb190, 10, none⟩ = some (.slice A0_10 l0_10.length c0_10) := (blk_cell BK190.out 10).trans rfl; have hcz7_11 : w6.cell? ⟨gb190, 11, none⟩ = some (.bool a0_11) := (blk_cell BK190.out 11).trans rfl; have hcz7_12 : w6.cell? ⟨gb190, 12, none⟩ = some (.int .u32 a0_12) := (blk_cell BK190.out 12).trans rfl; have hcz7_13 : w6.cell? ⟨gb190, 13, none⟩ = some (.int .u32 a0_13) := (blk_cell BK190.out 13).trans rfl; have hcz7_14 : w6.cell? ⟨gb190, 14, none⟩ = some (.string a0_14) := (blk_cell BK190.out 14).trans rfl; have hfz7_0 := blk_frozen BK190.out 0; have hfz7_1 := blk_frozen BK190.out 1; have hfz7_2 := blk_frozen BK190.out 2; have hfz7_3 := blk_frozen BK190.out 3; have hfz7_4 := blk_frozen BK190.out 4; have hfz7_5 := blk_frozen BK190.out 5; have hfz7_6 := blk_frozen BK190.out 6; have hfz7_7 := blk_frozen BK190.out 7; have hfz7_8 := blk_frozen BK190.out 8; have hfz7_9 := blk_frozen BK190.out 9; have hfz7_10 := blk_frozen BK190.out 10; have hfz7_11 := blk_frozen BK190.out 11; have hfz7_12 := blk_frozen BK190.out 12; have hfz7_13 := blk_frozen BK190.out 13; have hfz7_14 := blk_frozen BK190.out 14))
      go_ret
      exact ⟨by first | rfl | (simp [errW_none, errW_some] <;> rfl) | (simp [*, errW_none, errW_some] <;> rfl), by repeat (first | (with_reducible first | exact HB.out | apply below_alloc | apply pw_below_drewN | apply below_drew1 | refine below_set ?_ GE190.out) | exact HB.out)⟩
  · rw [if_neg c2] at H
    have c2b0 : ((Go.bits .and .i64 a0_4 2) == 0) = false := beq_eq_false_iff_ne.mpr c2
    have c2b1 : ((Go.bits .and .i64 a0_4 2) != 0) = true := bne_iff_ne.mpr c2
    by_cases c8 : (Go.bits .and .i64 a0_4 1) = 0
    · rw [if_pos c8] at H
      have c8b0 : ((Go.bits .and .i64 a0_4 1) == 0) = true := beq_iff_eq.mpr c8
      have c8b1 : ((Go.bits .and .i64 a0_4 1) != 0) = false := bne_eq_false_iff_eq.mpr c8
      clear c8
      obtain rfl := Option.some.inj H
      go_enter Try.func48, Try.ntmps48
      go_wp2_with (first | ((with_reducible refine gate_dst (N := 1) rfl ?_); refine box_event ?hg (N := 1) ?hd (cs := #[.int .i64 a0_0, .int .i64 a0_1, .int .u32 a0_2, .int .u32 a0_3, .int .i64 a0_4, .int .i64 a0_5, .int .i64 a0_6, .int .i64 a0_7, .int .i64 a0_8, .bool a0_9, .slice A0_10 l0_10.length c0_10, .bool a0_11, .int .u32 a0_12, .int .u32 a0_13, .string a0_14]) (t := 38) ?hr ?_; (case hd => rfl); (case hg => rfl); (case hr => first | (go_simp; done) | (go_simp; rfl)); intro gb190 hg w9 hbox hb; have n0_ := Aside0.mk (below_step (by repeat (first | (with_reducible first | exact HB.out | apply below_alloc | apply pw_below_drewN | apply below_drew1) | exact HB.out)) hb); have n1_ := Aside0.mk (hbox); have n2_ := Aside0.mk ((by rw [hg]; exact (below_size (by repeat (first | (with_reducible first | exact HB.out | apply below_alloc | apply pw_below_drewN | apply below_drew1) | exact HB.out))) : w.heap.size ≤ gb190)); have n3_ := Aside0.mk ((by rw [hg]; exact (below_size (by repeat (first | (with_reducible first | exact HB.out | apply below_alloc | apply pw_below_drewN | apply below_drew1) | exact HB.out))) : w.heap.size ≤ gb190)); clear HB; have HB := n0_; have BK190 := n1_; have GW190 := n2_; have GE190 := n3_; clear n0_ n1_ n2_ n3_; clear hb hbox hg; have hcz10_0 : w9.cell? ⟨gb190, 0, none⟩ = some (.int .i64 a0_0) := (blk_cell BK190.out 0).trans rfl; have hcz10_1 : w9.cell? ⟨gb190, 1, none⟩ = some (.int .i64 a0_1) := (blk_cell BK190.out 1).trans rfl; have hcz10_2 : w9.cell? ⟨gb190, 2, none⟩ = some (.int .u32 a0_2) := (blk_cell BK190.out 2).trans rfl; have hcz10_3 : w9.cell? ⟨gb190, 3, none⟩ = some (.int .u32 a0_3) := (blk_cell BK190.out 3).trans rfl; have hcz10_4 : w9.cell? ⟨gb190, 4, none⟩ = some (.int .i64 a0_4) := (blk_cell BK190.out 4).trans rfl; have hcz10_5 : w9.cell? ⟨gb190, 5, none⟩ = some (.int .i64 a0_5) := (blk_cell BK190.out 5).trans rfl; have hcz10_6 : w9.cell? ⟨gb190, 6, none⟩ = some (.int .i64 a0_6) := (blk_cell BK190.out 6).trans rfl; have hcz10_7 : w9.cell? ⟨gb190, 7, none⟩ = some (.int .i64 a0_7) := (blk_cell BK190.out 7).trans rfl; have hcz10_8 : w9.cell? ⟨gb190, 8, none⟩ = some (.int .i64 a0_8) := (blk_cell BK190.out 8).trans rfl; have hcz10_9 : w9.cell? ⟨gb190, 9, none⟩ = some (.bool a0_9) := (blk_cell BK190.out 9).trans rfl; have hcz10_10 : w9.cell? ⟨gb190, 10, none⟩ = some (.slice A0_10 l0_10.length c0_10) := (blk_cell BK190.out 10).trans rfl; have hcz10_11 : w9.cell? ⟨gb190, 11, none⟩ = some (.bool a0_11) := (blk_cell BK190.out 11).trans rfl; have hcz10_12 : w9.cell? ⟨gb190, 12, none⟩ = some (.int .u32 a0_12) := (blk_cell BK190.out 12).trans rfl; have hcz10_13 : w9.cell? ⟨gb190, 13, none⟩ = some (.int .u32 a0_13) := (blk_cell BK190.out 13).trans rfl; have hcz10_14 : w9.cell? ⟨gb190, 14, none⟩ = some (.string a0_14) := (blk_cell BK190.out 14).trans rfl; have hfz10_0 := blk_frozen BK190.out 0; have hfz10_1 := blk_frozen BK190.out 1; have hfz10_2 := blk_frozen BK190.out 2; have hfz10_3 := blk_frozen BK190.out 3; have hfz10_4 := blk_frozen BK190.out 4; have hfz10_5 := blk_frozen BK190.out 5; have hfz10_6 := blk_frozen BK190.out 6; have hfz10_7 := blk_frozen BK190.out 7; have hfz10_8 := blk_frozen BK190.out 8; have hfz10_9 := blk_frozen BK190.out 9; have hfz10_10 := blk_frozen BK190.out 10; have hfz10_11 := blk_frozen BK190.out 11; have hfz10_12 := blk_frozen BK190.out 12; have hfz10_13 := blk_frozen BK190.out 13; have hfz10_14 := blk_frozen BK190.out 14))
      go_ret
      exact ⟨by first | rfl | (simp [errW_none, errW_some] <;> rfl) | (simp [*, errW_none, errW_some] <;> rfl), by repeat (first | (with_reducible first | exact HB.out | apply below_alloc | apply pw_below_drewN | apply below_drew1 | refine below_set ?_ GE190.out) | exact HB.out)⟩
    · rw [if_neg c8] at H
      have c8b0 : ((Go.bits .and .i64 a0_4 1) == 0) = false := beq_eq_false_iff_ne.mpr c8
      have c8b1 : ((Go.bits .and .i64 a0_4 1) != 0) = true := bne_iff_ne.mpr c8
      obtain rfl := Option.some.inj H
      go_enter Try.func48, Try.ntmps48
      go_wp2_with (first | ((with_reducible refine gate_dst (N := 1) rfl ?_); refine box_event ?hg (N := 1) ?hd (cs := #[.int .i64 a0_0, .int .i64 a0_1, .int .u32 a0_2, .int .u32 a0_3, .int .i64 a0_4, .int .i64 a0_5, .int .i64 a0_6, .int .i64 a0_7, .int .i64 a0_8, .bool a0_9, .slice A0_10 l0_10.length c0_10, .bool a0_11, .int .u32 a0_12, .int .u32 a0_13, .string a0_14]) (t := 38) ?hr ?_; (case hd => rfl); (case hg => rfl); (case hr => first | (go_simp; done) | (go_simp; rfl)); intro gb190 hg w11 hbox hb; have n0_ := Aside0.mk (below_step (by repeat (first | (with_reducible first | exact HB.out | apply below_alloc | apply pw_below_drewN | apply below_drew1) | exact HB.out)) hb); have n1_ := Aside0.mk (hbox); have n2_ := Aside0.mk ((by rw [hg]; exact (below_size (by repeat (first | (with_reducible first | exact HB.out | apply below_alloc | apply pw_below_drewN | apply below_drew1) | exact HB.out))) : w.heap.size ≤ gb190)); have n3_ := Aside0.mk ((by rw [hg]; exact (below_size (by repeat (first | (with_reducible first | exact HB.out | apply below_alloc | apply pw_below_drewN | apply below_drew1) | exact HB.out))) : w.heap.size ≤ gb190)); clear HB; have HB := n0_; have BK190 := n1_; have GW190 := n2_; have GE190 := n3_; clear n0_ n1_ n2_ n3_; clear hb hbox hg; have hcz12_0 : w11.cell? ⟨gb190, 0, none⟩ = some (.int .i64 a0_0) := (blk_cell BK190.out 0).trans rfl; have hcz12_1 : w11.cell? ⟨gb190, 1, none⟩ = some (.int .i64 a0_1) := (blk_cell BK190.out 1).trans rfl; have hcz12_2 : w11.cell? ⟨gb190, 2, none⟩ = some (.int .u32 a0_2) := (blk_cell BK190.out 2).trans rfl; have hcz12_3 : w11.cell? ⟨gb190, 3, none⟩ = some (.int .u32 a0_3) := (blk_cell BK190.out 3).trans rfl; have hcz12_4 : w11.cell? ⟨gb190, 4, none⟩ = some (.int .i64 a0_4) := (blk_cell BK190.out 4).trans rfl; have hcz12_5 : w11.cell? ⟨gb190, 5, none⟩ = some (.int .i64 a0_5) := (blk_cell BK190.out 5).trans rfl; have hcz12_6 : w11.cell? ⟨gb190, 6, none⟩ = some (.int .i64 a0_6) := (blk_cell BK190.out 6).trans rfl; have hcz12_7 : w11.cell? ⟨gb190, 7, none⟩ = some (.int .i64 a0_7) := (blk_cell BK190.out 7).trans rfl; have hcz12_8 : w11.cell? ⟨gb190, 8, none⟩ = some (.int .i64 a0_8) := (blk_cell BK190.out 8).trans rfl; have hcz12_9 : w11.cell? ⟨gb190, 9, none⟩ = some (.bool a0_9) := (blk_cell BK190.out 9).trans rfl; have hcz12_10 : w11.cell? ⟨gb190, 10, none⟩ = some (.slice A0_10 l0_10.length c0_10) := (blk_cell BK190.out 10).trans rfl; have hcz12_11 : w11.cell? ⟨gb190, 11, none⟩ = some (.bool a0_11) := (blk_cell BK190.out 11).trans rfl; have hcz12_12 : w11.cell? ⟨gb190, 12, none⟩ = some (.int .u32 a0_12) := (blk_cell BK190.out 12).trans rfl; have hcz12_13 : w11.cell? ⟨gb190, 13, none⟩ = some (.int .u32 a0_13) := (blk_cell BK190.out 13).trans rfl; have hcz12_14 : w11.cell? ⟨gb190, 14, none⟩ = some (.string a0_14) := (blk_cell BK190.out 14).trans rfl; have hfz12_0 := blk_frozen BK190.out 0; have hfz12_1 := blk_frozen BK190.out 1; have hfz12_2 := blk_frozen BK190.out 2; have hfz12_3 := blk_frozen BK190.out 3; have hfz12_4 := blk_frozen BK190.out 4; have hfz12_5 := blk_frozen BK190.out 5; have hfz12_6 := blk_frozen BK190.out 6; have hfz12_7 := blk_frozen BK190.out 7; have hfz12_8 := blk_frozen BK190.out 8; have hfz12_9 := blk_frozen BK190.out 9; have hfz12_10 := blk_frozen BK190.out 10; have hfz12_11 := blk_frozen BK190.out 11; have hfz12_12 := blk_frozen BK190.out 12; have hfz12_13 := blk_frozen BK190.out 13; have hfz12_14 := blk_frozen BK190.out 14))
      go_ret
      exact ⟨by first | rfl | (simp [errW_none, errW_some] <;> rfl) | (simp [*, errW_none, errW_some] <;> rfl), by repeat (first | (with_reducible first | exact HB.out | apply below_alloc | apply pw_below_drewN | apply below_drew1 | refine below_set ?_ GE190.out) | exact HB.out)⟩

/-! ### rampartref16_End: function 34 -/
def rampartref16_End.f (a0_0 : Int) (a0_1 : Int) (a0_2 : Int) (a0_3 : Int) (a0_4 : Int) (a0_5 : Int) (a0_6 : Int) (a0_7 : Int) (a0_8 : Int) (a0_9 : Bool) (l0_10 : List (S49)) (a0_11 : Bool) (a0_12 : Int) (a0_13 : Int) (a0_14 : ByteArray) : Option (Int) := (rampartref08_Len.f a0_0 a0_1 a0_2 a0_3 a0_4 a0_5 a0_6 a0_7 a0_8 a0_9 l0_10 a0_11 a0_12 a0_13 a0_14).bind fun t192 => ((rampartref03_Step.f a0_2 t192).bind fun t193 => (some t193))
set_option maxHeartbeats 8000000 in
set_option maxRecDepth 100000 in
theorem rampartref16_End.calls (a0_0 : Int) (a0_1 : Int) (a0_2 : Int) (a0_3 : Int) (a0_4 : Int) (a0_5 : Int) (a0_6 : Int) (a0_7 : Int) (a0_8 : Int) (a0_9 : Bool) (A0_10 : Option Addr) (c0_10 : Nat) (l0_10 : List (S49)) (a0_11 : Bool) (a0_12 : Int) (a0_13 : Int) (a0_14 : ByteArray) (r : Int) (w : World) (hr0_10 : Kd.C k49 w A0_10 l0_10.length l0_10) (hc0_10 : l0_10.length ≤ c0_10) (h : rampartref16_End.f a0_0 a0_1 a0_2 a0_3 a0_4 a0_5 a0_6 a0_7 a0_8 a0_9 l0_10 a0_11 a0_12 a0_13 a0_14 = some r) :
    Calls Try.prog 34 #[.agg #[.int .i64 a0_0, .int .i64 a0_1, .int .u32 a0_2, .int .u32 a0_3, .int .i64 a0_4, .int .i64 a0_5, .int .i64 a0_6, .int .i64 a0_7, .int .i64 a0_8, .bool a0_9, .slice A0_10 l0_10.length c0_10, .bool a0_11, .int .u32 a0_12, .int .u32 a0_13, .string a0_14]] w fun e w' => e = .returned (.int .u32 r) ∧ Below w.heap.size w w' := by
  have hu38 := Try.underlying38
  have HR0_10 := Aside0.mk hr0_10
  have HC0_10 := Aside0.mk hc0_10
  clear hr0_10 hc0_10
  have HB := Aside0.mk (Below.refl w.heap.size w)
  have H : ((rampartref08_Len.f a0_0 a0_1 a0_2 a0_3 a0_4 a0_5 a0_6 a0_7 a0_8 a0_9 l0_10 a0_11 a0_12 a0_13 a0_14).bind fun t192 => ((rampartref03_Step.f a0_2 t192).bind fun t193 => (some t193))) = some r := h
  clear h
  replace H := Option.bind_eq_some_iff.mp H
  obtain ⟨t192, A20, H⟩ := H
  replace H : ((rampartref03_Step.f a0_2 t192).bind fun t193 => (some t193)) = some r := H
  have A2 := Aside0.mk A20
  clear A20
  replace H := Option.bind_eq_some_iff.mp H
  obtain ⟨t193, A30, H⟩ := H
  replace H : (some t193) = some r := H
  have A3 := Aside0.mk A30
  clear A30
  obtain rfl := Option.some.inj H
  go_enter Try.func34, Try.ntmps34
  try go_wp2_with (first | ((with_reducible refine gate_dst (N := 1) rfl ?_); refine box_event ?hg (N := 1) ?hd (cs := #[.int .i64 a0_0, .int .i64 a0_1, .int .u32 a0_2, .int .u32 a0_3, .int .i64 a0_4, .int .i64 a0_5, .int .i64 a0_6, .int .i64 a0_7, .int .i64 a0_8, .bool a0_9, .slice A0_10 l0_10.length c0_10, .bool a0_11, .int .u32 a0_12, .int .u32 a0_13, .string a0_14]) (t := 38) ?hr ?_; (case hd => rfl); (case hg => rfl); (case hr => first | (go_simp; done) | (go_simp; rfl)); intro gb191 hg w4 hbox hb; have n0_ := Aside0.mk (below_step (by repeat (first | (with_reducible first | exact HB.out | apply below_alloc | apply pw_below_drewN | apply below_drew1) | exact HB.out)) hb); have n1_ := Aside0.mk (hbox); have n2_ := Aside0.mk ((by rw [hg]; exact (below_size (by repeat (first | (with_reducible first | exact HB.out | apply below_alloc | apply pw_below_drewN | apply below_drew1) | exact HB.out))) : w.heap.size ≤ gb191)); have n3_ := Aside0.mk ((by rw [hg]; exact (below_size (by repeat (first | (with_reducible first | exact HB.out | apply below_alloc | apply pw_below_drewN | apply below_drew1) | exact HB.out))) : w.heap.size ≤ gb191)); clear HB; have HB := n0_; have BK191 := n1_; have GW191 := n2_; have GE191 := n3_; clear n0_ n1_ n2_ n3_; clear hb hbox hg))
  have n0_ := Aside0.mk (blk_drew BK191.out)
  have n1_ := Aside0.mk (below_drew1 HB.out)
  clear BK191
  clear HB
  have BK191 := n0_
  have HB := n1_
  clear n0_ n1_
  refine start_ (n := 6) (S := fun w' => w'.cell? ⟨gb191, 0, none⟩ = some (.int .i64 a0_0) ∧ w'.cell? ⟨gb191, 1, none⟩ = some (.int .i64 a0_1) ∧ w'.cell? ⟨gb191, 2, none⟩ = some (.int .u32 a0_2) ∧ w'.cell? ⟨gb191, 3, none⟩ = some (.int .u32 a0_3) ∧ w'.cell? ⟨gb191, 4, none⟩ = some (.int .i64 a0_4) ∧ w'.cell? ⟨gb191, 5, none⟩ = some (.int .i64 a0_5) ∧ w'.cell? ⟨gb191, 6, none⟩ = some (.int .i64 a0_6) ∧ w'.cell? ⟨gb191, 7, none⟩ = some (.int .i64 a0_7) ∧ w'.cell? ⟨gb191, 8, none⟩ = some (.int .i64 a0_8) ∧ w'.cell? ⟨gb191, 9, none⟩ = some (.bool a0_9) ∧ w'.cell? ⟨gb191, 10, none⟩ = some (.slice A0_10 l0_10.length c0_10) ∧ w'.cell? ⟨gb191, 11, none⟩ = some (.bool a0_11) ∧ w'.cell? ⟨gb191, 12, none⟩ = some (.int .u32 a0_12) ∧ w'.cell? ⟨gb191, 13, none⟩ = some (.int .u32 a0_13) ∧ w'.cell? ⟨gb191, 14, none⟩ = some (.string a0_14)) (ds := []) #[false, false, false, false, false, false] (by kernel_rfl) rfl rfl ⟨(blk_cell BK191.out 0).trans rfl, (blk_cell BK191.out 1).trans rfl, (blk_cell BK191.out 2).trans rfl, (blk_cell BK191.out 3).trans rfl, (blk_cell BK191.out 4).trans rfl, (blk_cell BK191.out 5).trans rfl, (blk_cell BK191.out 6).trans rfl, (blk_cell BK191.out 7).trans rfl, (blk_cell BK191.out 8).trans rfl, (blk_cell BK191.out 9).trans rfl, (blk_cell BK191.out 10).trans rfl, (blk_cell BK191.out 11).trans rfl, (blk_cell BK191.out 12).trans rfl, (blk_cell BK191.out 13).trans rfl, (blk_cell BK191.out 14).trans rfl⟩ (fun hHeld => ?_)
  generalize w4.drew = w5 at BK191 HB hHeld ⊢
  refine pure_ (i := 0) (N := some 3) (v := ?_) (a' := ?_) #[true, false, false, false, false, false] rfl rfl (by kernel_rfl) (fun _ _ _ h => h) (Or.inl ⟨by rfl, ?_⟩) ?_ ?_
  rotate_left
  · intro w'
    go_simp
    with_reducible rfl
  rotate_left
  · simp only [Act.put, List.setIfInBounds_toArray, List.set_cons_zero, List.set_cons_succ, i64_w, i32_w]
    rfl
  refine take_ (i := 1) (N := some 4) (v := ?_) (a' := ?_) #[true, true, false, false, false, false] rfl rfl (by kernel_rfl) (fun _ _ _ h => h) (Or.inl ⟨by rfl, ?_⟩) hHeld ?_ ?_
  rotate_left
  · rintro w' ⟨s0, s1, s2, s3, s4, s5, s6, s7, s8, s9, s10, s11, s12, s13, s14⟩
    go_simp
    with_reducible rfl
  rotate_left
  · simp only [Act.put, List.setIfInBounds_toArray, List.set_cons_zero, List.set_cons_succ, i64_w, i32_w]
    rfl
  refine take_ (i := 2) (N := some 5) (v := ?_) (a' := ?_) #[true, true, true, false, false, false] rfl rfl (by kernel_rfl) (fun _ _ _ h => h) (Or.inl ⟨by rfl, ?_⟩) hHeld ?_ ?_
  rotate_left
  · rintro w' ⟨s0, s1, s2, s3, s4, s5, s6, s7, s8, s9, s10, s11, s12, s13, s14⟩
    go_simp
    with_reducible rfl
  rotate_left
  · simp only [Act.put, List.setIfInBounds_toArray, List.set_cons_zero, List.set_cons_succ, i64_w, i32_w]
    rfl
  refine one_ (i := 3) (N := some 6) #[true, true, true, true, false, false] rfl rfl (by kernel_rfl) (by decide) (fun K hK => ?_)
  refine goes_ Try.func48 (by kernel_rfl) rfl #[.agg #[.int .i64 a0_0, .int .i64 a0_1, .int .u32 a0_2, .int .u32 a0_3, .int .i64 a0_4, .int .i64 a0_5, .int .i64 a0_6, .int .i64 a0_7, .int .i64 a0_8, .bool a0_9, .slice A0_10 l0_10.length c0_10, .bool a0_11, .int .u32 a0_12, .int .u32 a0_13, .string a0_14]] (by rfl) rfl rfl (by (try simp only [List.map_toArray, List.map_cons, List.map_nil]); first | done | rfl | (simp only [List.length_drop, List.length_take]; rfl)) ?_
  with_reducible refine (rampartref08_Len.calls a0_0 a0_1 a0_2 a0_3 a0_4 a0_5 a0_6 a0_7 a0_8 a0_9 _ _ l0_10 a0_11 a0_12 a0_13 a0_14 t192 _ ?side1 ?side2 A2.out).mono ?_
  (case side1 => repeat (first | exact (Kd.C_below HR0_10.out HB.out) | (with_reducible refine Kd.C_alloc ?_ _) | (with_reducible refine Kd.C_drewN ?_ _) | (with_reducible refine Kd.C_drew ?_)))
  (case side2 => exact HC0_10.out)
  rintro e w6 ⟨rfl, hb⟩
  refine ⟨_, rfl, ?_⟩
  have n0_ := Aside0.mk (blk_below (g := gb191) (o := .cells #[.int .i64 a0_0, .int .i64 a0_1, .int .u32 a0_2, .int .u32 a0_3, .int .i64 a0_4, .int .i64 a0_5, .int .i64 a0_6, .int .i64 a0_7, .int .i64 a0_8, .bool a0_9, .slice A0_10 l0_10.length c0_10, .bool a0_11, .int .u32 a0_12, .int .u32 a0_13, .string a0_14] 38 (0, 0)) (by (with_reducible repeat (first | refine blk_drewN ?_ _ | refine blk_drew ?_ | refine blk_alloc ?_ _)); exact BK191.out) hb)
  have n1_ := Aside0.mk (below_step (by repeat (first | (with_reducible first | exact HB.out | apply below_alloc | apply pw_below_drewN | apply below_drew1 | refine below_set ?_ GE191.out) | exact HB.out)) hb)
  clear BK191
  clear HB
  have BK191 := n0_
  have HB := n1_
  clear n0_ n1_
  (try clear hb)
  (try clear hb2)
  (try clear hk)
  (try clear hi)
  refine hK.out _ _ ⟨(blk_cell BK191.out 0).trans rfl, (blk_cell BK191.out 1).trans rfl, (blk_cell BK191.out 2).trans rfl, (blk_cell BK191.out 3).trans rfl, (blk_cell BK191.out 4).trans rfl, (blk_cell BK191.out 5).trans rfl, (blk_cell BK191.out 6).trans rfl, (blk_cell BK191.out 7).trans rfl, (blk_cell BK191.out 8).trans rfl, (blk_cell BK191.out 9).trans rfl, (blk_cell BK191.out 10).trans rfl, (blk_cell BK191.out 11).trans rfl, (blk_cell BK191.out 12).trans rfl, (blk_cell BK191.out 13).trans rfl, (blk_cell BK191.out 14).trans rfl⟩ (fun hHeld => ?_)
  clear hK K
  refine norm_ (a' := ?_) ?_ ?_
  rotate_left
  · show Act.put _ (some 6) _ = _
    simp only [Act.put, List.setIfInBounds_toArray, List.set_cons_zero, List.set_cons_succ, i64_w, i32_w]
    rfl
  refine one_ (i := 4) (N := some 7) #[true, true, true, true, true, false] rfl rfl (by kernel_rfl) (by decide) (fun K hK => ?_)
  refine goes_ Try.func27 (by kernel_rfl) rfl #[.int .u32 a0_2, .int .i64 t192] (by rfl) rfl rfl (by (try simp only [List.map_toArray, List.map_cons, List.map_nil]); first | done | rfl | (simp only [List.length_drop, List.length_take]; rfl)) ?_
  with_reducible refine (rampartref03_Step.calls a0_2 t192 t193 _ A3.out).mono ?_
  rintro e w' ⟨rfl, ⟨nd, rfl⟩⟩
  refine ⟨_, rfl, ?_⟩
  refine hK.out _ _ ⟨(blk_cell BK191.out 0).trans rfl, (blk_cell BK191.out 1).trans rfl, (blk_cell BK191.out 2).trans rfl, (blk_cell BK191.out 3).trans rfl, (blk_cell BK191.out 4).trans rfl, (blk_cell BK191.out 5).trans rfl, (blk_cell BK191.out 6).trans rfl, (blk_cell BK191.out 7).trans rfl, (blk_cell BK191.out 8).trans rfl, (blk_cell BK191.out 9).trans rfl, (blk_cell BK191.out 10).trans rfl, (blk_cell BK191.out 11).trans rfl, (blk_cell BK191.out 12).trans rfl, (blk_cell BK191.out 13).trans rfl, (blk_cell BK191.out 14).trans rfl⟩ (fun hHeld => ?_)
  clear hK K
  refine norm_ (a' := ?_) ?_ ?_
  rotate_left
  · show Act.put _ (some 7) _ = _
    simp only [Act.put, List.setIfInBounds_toArray, List.set_cons_zero, List.set_cons_succ, i64_w, i32_w]
    rfl
  refine pure_ (i := 5) (N := some 2) (v := ?_) (a' := ?_) #[true, true, true, true, true, true] rfl rfl (by kernel_rfl) (fun _ _ _ h => h) (Or.inl ⟨by rfl, ?_⟩) ?_ ?_
  rotate_left
  · intro w'
    go_simp
    with_reducible rfl
  rotate_left
  · simp only [Act.put, List.setIfInBounds_toArray, List.set_cons_zero, List.set_cons_succ, i64_w, i32_w]
    rfl
  refine done_ (by kernel_rfl) ?_
  try go_wp2
  go_ret
  exact ⟨by first | rfl | (simp [errW_none, errW_some] <;> rfl) | (simp [*, errW_none, errW_some] <;> rfl), by repeat (first | (with_reducible first | exact HB.out | apply below_alloc | apply pw_below_drewN | apply below_drew1 | refine below_set ?_ GE191.out) | exact HB.out)⟩

end Go.Proofs.Ytbmekfammbfadaa.PAll
