/- A window is never less with a greater scale, at most 2^30, and that of a segment with Syn is what it says: for every window and scale; no condition. This text: the walk of the law. -/
import Derived.Test.YtbmekfammbfadaaEdge
import Derived.Test.YtbmekfammbfadaaWorld
import Derived.Test.YtbmekfammbfadaaW16

namespace Go.Proofs.Ytbmekfammbfadaa.W16
open Go.RowKit Go.Proofs.Ytbmekfammbfadaa.PAll Go.Proofs.YtbmekfammbfadaaW.PrintWords Go.Proofs.YtbmekfammbfadaaW.PrintLast Go.Proofs.YtbmekfammbfadaaW.PrintMore Go.Proofs.Ytbmekfammbfadaa.SeqnLem Go.Proofs.Ytbmekfammbfadaa.Edge Go.Proofs.Ytbmekfammbfadaa.World_
attribute [local go_sem] max2_int min2_int max_two min_two max_three min_three max_four min_four
set_option linter.unusedVariables false
set_option linter.unusedSimpArgs false
theorem sh_double {n k : Int} (h0 : 0 ≤ n) (h1 : n ≤ 65535) (k0 : 0 ≤ k) (k1 : k < 14) : Shift n (k + 1) false = 2 * Shift n k false := by
  unfold Shift
  have hm : mn (k + 1) 14 = k + 1 := by unfold mn; split <;> omega
  rw [if_neg (by simp; omega), hm]
  by_cases h : k < 1
  · obtain rfl : k = 0 := by omega
    rw [if_pos (by simp)]
    show W0 n * 2 ^ 1 = _
    omega
  · have hm2 : mn k 14 = k := by unfold mn; split <;> omega
    rw [if_neg (by simp; omega), hm2, show (k + 1).toNat = k.toNat + 1 by omega, Int.pow_succ]
    rw [← Int.mul_assoc, Int.mul_comm]
theorem W0_id {n : Int} (h0 : 0 ≤ n) (h1 : n ≤ 65535) : W0 n = n := by unfold W0 mx mn; split <;> split <;> omega
theorem sh_ge {n k : Int} (h0 : 0 ≤ n) (h1 : n ≤ 65535) : n ≤ Shift n k false := by
  unfold Shift
  rw [W0_id h0 h1]
  split
  · omega
  · have := pow_bd (mn k 14).toNat (by have := mn14 k; omega)
    calc n = n * 1 := by omega
      _ ≤ n * 2 ^ (mn k 14).toNat := Int.mul_le_mul_of_nonneg_left this.1 h0
set_option maxHeartbeats 8000000 in
set_option maxRecDepth 100000 in
theorem EdgeShifts {w : World} (n : Int) (wn : (Lit.int .u16 n).wf = true) (c : Int) (wc : (Lit.int .u8 c).wf = true) : Calls Try.prog 10 #[.int .u16 n, .int .u8 c] w fun e w' => e = .returned (.bool true) ∧ Below w.heap.size w w' := by
  obtain ⟨h0, h1⟩ := u16_b wn
  obtain ⟨g0, g1⟩ := u8_b wc
  clear wn wc
  obtain ⟨a, ea⟩ : ∃ a, Shift n (c % 14) false = a := ⟨_, rfl⟩
  have eb : Shift n (c % 14 + 1) false = 2 * a := by rw [sh_double h0 h1 (by omega) (by omega), ea]
  have ha0 : n ≤ a := by rw [← ea]; exact sh_ge h0 h1
  have ha1 : a ≤ 1073725440 := by rw [← ea]; exact (Shift_bd _ _ _).2
  have e1 : Shift n (-1) false = n := by unfold Shift; rw [if_pos (by simp), W0_id h0 h1]
  have e2 : Shift n (c % 14) true = n := by unfold Shift; rw [if_pos (by simp), W0_id h0 h1]
  obtain ⟨m, em⟩ : ∃ m, Shift n 14 false = m := ⟨_, rfl⟩
  have e3 : Shift n 99 false = m := by rw [← em]; rfl
  have hm : m < 1073741824 := by rw [← em]; have := (Shift_bd n 14 false).2; omega
  have EA := Aside0.mk ea
  have EB := Aside0.mk eb
  have E1 := Aside0.mk e1
  have E2 := Aside0.mk e2
  have EM := Aside0.mk em
  have E3 := Aside0.mk e3
  clear ea eb e1 e2 em e3
  have HB1_ : Aside0 (Below w.heap.size w w) := ⟨Below.refl _ _⟩
  go_enter Try.func10, Try.ntmps10
  go_wp2_with (fail)
  refine (ni (c_shift n (c % 14) false) EA.out).mono ?_
  rintro e w1 ⟨rfl, hb1⟩
  have HB2_ : Aside0 (Below w.heap.size w w1) := ⟨below_then HB1_.out HB1_.out.size hb1⟩
  have HZ3_ := Aside0.mk hb1.size
  clear hb1 HB1_ HZ3_
  go_wp2_with (fail)
  refine (ni (c_shift n (c % 14 + 1) false) EB.out).mono ?_
  rintro e w2 ⟨rfl, hb2⟩
  have HB4_ : Aside0 (Below w.heap.size w w2) := ⟨below_then HB2_.out HB2_.out.size hb2⟩
  have HZ5_ := Aside0.mk hb2.size
  clear hb2 HB2_ HZ5_
  go_wp2_with (fail)
  refine (ni (c_shift n (-1) false) E1.out).mono ?_
  rintro e w3 ⟨rfl, hb3⟩
  have HB6_ : Aside0 (Below w.heap.size w w3) := ⟨below_then HB4_.out HB4_.out.size hb3⟩
  have HZ7_ := Aside0.mk hb3.size
  clear hb3 HB4_ HZ7_
  go_wp2_with (fail)
  refine (ni (c_shift n (c % 14) true) E2.out).mono ?_
  rintro e w4 ⟨rfl, hb4⟩
  have HB8_ : Aside0 (Below w.heap.size w w4) := ⟨below_then HB6_.out HB6_.out.size hb4⟩
  have HZ9_ := Aside0.mk hb4.size
  clear hb4 HB6_ HZ9_
  go_wp2_with (fail)
  refine (ni (c_shift n 99 false) E3.out).mono ?_
  rintro e w5 ⟨rfl, hb5⟩
  have HB10_ : Aside0 (Below w.heap.size w w5) := ⟨below_then HB8_.out HB8_.out.size hb5⟩
  have HZ11_ := Aside0.mk hb5.size
  clear hb5 HB8_ HZ11_
  go_wp2_with (fail)
  refine (ni (c_shift n 14 false) EM.out).mono ?_
  rintro e w6 ⟨rfl, hb6⟩
  have HB12_ : Aside0 (Below w.heap.size w w6) := ⟨below_then HB10_.out HB10_.out.size hb6⟩
  have HZ13_ := Aside0.mk hb6.size
  clear hb6 HB10_ HZ13_
  go_wp2_with (fail)
  refine (ni (c_shift n 14 false) EM.out).mono ?_
  rintro e w7 ⟨rfl, hb7⟩
  have HB14_ : Aside0 (Below w.heap.size w w7) := ⟨below_then HB12_.out HB12_.out.size hb7⟩
  have HZ15_ := Aside0.mk hb7.size
  clear hb7 HB12_ HZ15_
  go_wp2_with (fail)
  refine (c_known).mono ?_
  rintro e w8 ⟨rfl, hb8⟩
  have HB16_ : Aside0 (Below w.heap.size w w8) := ⟨below_then HB14_.out HB14_.out.size hb8⟩
  have HZ17_ := Aside0.mk hb8.size
  clear hb8 HB14_ HZ17_
  go_wp2
  go_ret
  exact ⟨by first | rfl | (simp; done), by first | exact HB16_.out | (repeat (first | exact HB16_.out | apply below_alloc | apply pw_below_drewN | apply below_drew1))⟩
end Go.Proofs.Ytbmekfammbfadaa.W16
