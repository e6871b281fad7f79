/- A segment's end is as far from its beginning as it has bytes, and one more for each of Syn and Fin; what it grants is its window behind the latest number: for every segment; no condition. This text: one way of the walk. -/
import Derived.Test.YtbmekfammbfadaaEdge
import Derived.Test.YtbmekfammbfadaaWorld
import Derived.Test.YtbmekfammbfadaaW16
import Derived.Test.YtbmekfammbfadaaFrame
import Derived.Deep.RegionHeld3

namespace Go.Proofs.Ytbmekfammbfadaa.W16
open Go.RowKit Go.Proofs.Ytbmekfammbfadaa.PAll Go.Proofs.YtbmekfammbfadaaW.PrintWords Go.Proofs.YtbmekfammbfadaaW.PrintLast Go.Proofs.YtbmekfammbfadaaW.PrintMore Go.Proofs.Ytbmekfammbfadaa.SeqnLem Go.Proofs.Ytbmekfammbfadaa.Edge Go.Proofs.Ytbmekfammbfadaa.World_ Go.Proofs.Ytbmekfammbfadaa.Frame
attribute [local go_sem] max2_int min2_int max_two min_two max_three min_three max_four min_four
set_option linter.unusedVariables false
set_option linter.unusedSimpArgs false
set_option maxHeartbeats 8000000 in
set_option maxRecDepth 100000 in
theorem ends01 {w : World} (s : Sg) (A : Option Addr) (c : Nat) (ok : s.Ok A c w) (wf : s.Wf) (hl : lightB s = true) (hd : s.data.size ≤ 5000) (c1 : 0 ≤ s.flags) (c2 : s.flags ≤ 63) (c3 : 0 ≤ s.win) (c4 : s.win ≤ 65535) (hsy : ¬ Syn s.flags) (hfi : Fin_ s.flags) : Calls Try.prog 11 #[.agg #[.int .i64 s.src, .int .i64 s.dst, .int .u32 s.seq, .int .u32 s.ack, .int .i64 s.flags, .int .i64 s.win, .int .i64 s.urg, .int .i64 s.mss, .int .i64 s.scale, .bool s.sack, .slice A s.blocks.length c, .bool s.timed, .int .u32 s.time, .int .u32 s.echo, .string s.data]] w fun e w' => e = .returned (.bool true) ∧ Below w.heap.size w w' := by
  have hu38 := Try.underlying38
  have hu49 := Try.underlying49
  have hu36 := Try.underlying36
  have OK := Aside0.mk ok
  have WF := Aside0.mk wf
  clear ok wf
  have HL := Aside0.mk hl
  clear hl
  have c1b : decide (s.flags < 0) = false := decide_eq_false (by omega)
  have c2b : decide (63 < s.flags) = false := decide_eq_false (by omega)
  have c3b : decide (s.win < 0) = false := decide_eq_false (by omega)
  have c4b : decide (65535 < s.win) = false := decide_eq_false (by omega)
  have e2 : G (Last s) (Grant s 0) = s.win := by
    have h := Last_bd s WF.out
    have h2 : Shift s.win 0 (decide (Syn s.flags)) = s.win := by unfold Shift; rw [if_pos (.inr (by decide)), W0_id (by omega) (by omega)]
    unfold Grant
    rw [h2]
    unfold G
    split <;> omega
  have e1 : G s.seq (EndS s) = (s.data.size : Int) + 1 := by
    have hs := WF.out.seq
    have hl : Len s = (s.data.size : Int) + 1 := by unfold Len; rw [if_neg hsy, if_pos hfi]; omega
    unfold EndS
    rw [hl]
    unfold G
    split <;> omega
  obtain ⟨la, ela⟩ : ∃ x, Last s = x := ⟨_, rfl⟩
  obtain ⟨gr, egr⟩ : ∃ x, Grant s 0 = x := ⟨_, rfl⟩
  obtain ⟨en, een⟩ : ∃ x, EndS s = x := ⟨_, rfl⟩
  have LB : Aside0 (0 ≤ la ∧ la ≤ 4294967295) := ⟨by rw [← ela]; exact Last_bd s WF.out⟩
  have EB : Aside0 (0 ≤ en ∧ en ≤ 4294967295) := ⟨by rw [← een]; unfold EndS; omega⟩
  have GB : Aside0 (0 ≤ gr ∧ gr ≤ 4294967295) := ⟨by rw [← egr]; unfold Grant; omega⟩
  have LA := Aside0.mk ela
  have GR := Aside0.mk egr
  have EN := Aside0.mk een
  have E1 : Aside0 (G s.seq en = (s.data.size : Int) + 1) := ⟨by rw [← een]; exact e1⟩
  have E2 : Aside0 (G la gr = s.win) := ⟨by rw [← ela, ← egr]; exact e2⟩
  have hd2 : s.data.size ≤ 1000000 := by omega
  have hsyb : (Go.bits .and .i64 s.flags 2 != 0) = false := by rw [bne_eq_false_iff_eq]; have := and2 s.flags; omega
  have hfib : (Go.bits .and .i64 s.flags 1 != 0) = true := by rw [bne_iff_ne]; have := and1 s.flags; omega
  clear ela egr een e1 e2 hsy hfi
  have HB1_ : Aside0 (Below w.heap.size w w) := ⟨Below.refl _ _⟩
  go_enter Try.func11, Try.ntmps11
  have BK2_ : Aside0 ((w.alloc (.cells #[.int .i64 s.src, .int .i64 s.dst, .int .u32 s.seq, .int .u32 s.ack, .int .i64 s.flags, .int .i64 s.win, .int .i64 s.urg, .int .i64 s.mss, .int .i64 s.scale, .bool s.sack, .slice A s.blocks.length c, .bool s.timed, .int .u32 s.time, .int .u32 s.echo, .string s.data] 38)).heap[w.heap.size]? = some (.cells #[.int .i64 s.src, .int .i64 s.dst, .int .u32 s.seq, .int .u32 s.ack, .int .i64 s.flags, .int .i64 s.win, .int .i64 s.urg, .int .i64 s.mss, .int .i64 s.scale, .bool s.sack, .slice A s.blocks.length c, .bool s.timed, .int .u32 s.time, .int .u32 s.echo, .string s.data] 38)) := ⟨alloc_at (by first | rfl | simp only [size_al]) _⟩
  have OK3_ : Aside0 (s.Ok A c (w.alloc (.cells #[.int .i64 s.src, .int .i64 s.dst, .int .u32 s.seq, .int .u32 s.ack, .int .i64 s.flags, .int .i64 s.win, .int .i64 s.urg, .int .i64 s.mss, .int .i64 s.scale, .bool s.sack, .slice A s.blocks.length c, .bool s.timed, .int .u32 s.time, .int .u32 s.echo, .string s.data] 38))) := ⟨OK.out.below ((Below.refl _ _).alloc (Nat.le_refl _) _)⟩
  have HB4_ : Aside0 (Below w.heap.size w (w.alloc (.cells #[.int .i64 s.src, .int .i64 s.dst, .int .u32 s.seq, .int .u32 s.ack, .int .i64 s.flags, .int .i64 s.win, .int .i64 s.urg, .int .i64 s.mss, .int .i64 s.scale, .bool s.sack, .slice A s.blocks.length c, .bool s.timed, .int .u32 s.time, .int .u32 s.echo, .string s.data] 38))) := ⟨HB1_.out.alloc HB1_.out.size _⟩
  clear HB1_
  go_wp2_with (fail)
  refine (nb (c_light (s := s) (A := A) (c := c) (by exact OK3_.out)) HL.out).mono ?_
  rintro e w1 ⟨rfl, hb1⟩
  have BK5_ : Aside0 (w1.heap[w.heap.size]? = some (.cells #[.int .i64 s.src, .int .i64 s.dst, .int .u32 s.seq, .int .u32 s.ack, .int .i64 s.flags, .int .i64 s.win, .int .i64 s.urg, .int .i64 s.mss, .int .i64 s.scale, .bool s.sack, .slice A s.blocks.length c, .bool s.timed, .int .u32 s.time, .int .u32 s.echo, .string s.data] 38 (0, 0))) := ⟨keep BK2_.out hb1⟩
  have OK6_ : Aside0 (s.Ok A c w1) := ⟨OK3_.out.below hb1⟩
  clear OK3_
  have HB7_ : Aside0 (Below w.heap.size w w1) := ⟨below_then HB4_.out HB4_.out.size hb1⟩
  have HZ8_ := Aside0.mk hb1.size
  clear hb1 HB4_ HZ8_ BK2_
  obtain ⟨hc9_, hf10_⟩ := blk_all BK5_.out
  have BK11_ := Aside0.mk (alloc_old BK5_.out (.cells #[.int .i64 s.src, .int .i64 s.dst, .int .u32 s.seq, .int .u32 s.ack, .int .i64 s.flags, .int .i64 s.win, .int .i64 s.urg, .int .i64 s.mss, .int .i64 s.scale, .bool s.sack, .slice none 0 0, .bool s.timed, .int .u32 s.time, .int .u32 s.echo, .string s.data] 38))
  have BK12_ : Aside0 ((w1.alloc (.cells #[.int .i64 s.src, .int .i64 s.dst, .int .u32 s.seq, .int .u32 s.ack, .int .i64 s.flags, .int .i64 s.win, .int .i64 s.urg, .int .i64 s.mss, .int .i64 s.scale, .bool s.sack, .slice none 0 0, .bool s.timed, .int .u32 s.time, .int .u32 s.echo, .string s.data] 38)).heap[w1.heap.size]? = some (.cells #[.int .i64 s.src, .int .i64 s.dst, .int .u32 s.seq, .int .u32 s.ack, .int .i64 s.flags, .int .i64 s.win, .int .i64 s.urg, .int .i64 s.mss, .int .i64 s.scale, .bool s.sack, .slice none 0 0, .bool s.timed, .int .u32 s.time, .int .u32 s.echo, .string s.data] 38)) := ⟨alloc_at (by first | rfl | simp only [size_al]) _⟩
  have OK13_ : Aside0 (s.Ok A c (w1.alloc (.cells #[.int .i64 s.src, .int .i64 s.dst, .int .u32 s.seq, .int .u32 s.ack, .int .i64 s.flags, .int .i64 s.win, .int .i64 s.urg, .int .i64 s.mss, .int .i64 s.scale, .bool s.sack, .slice none 0 0, .bool s.timed, .int .u32 s.time, .int .u32 s.echo, .string s.data] 38))) := ⟨OK6_.out.below ((Below.refl _ _).alloc (Nat.le_refl _) _)⟩
  have HB14_ : Aside0 (Below w.heap.size w (w1.alloc (.cells #[.int .i64 s.src, .int .i64 s.dst, .int .u32 s.seq, .int .u32 s.ack, .int .i64 s.flags, .int .i64 s.win, .int .i64 s.urg, .int .i64 s.mss, .int .i64 s.scale, .bool s.sack, .slice none 0 0, .bool s.timed, .int .u32 s.time, .int .u32 s.echo, .string s.data] 38))) := ⟨HB7_.out.alloc HB7_.out.size _⟩
  clear HB7_ BK5_
  go_wp2_with (fail)
  have F0_ : Fr2 s A c w w.heap.size w1.heap.size (#[.int .i64 s.src, .int .i64 s.dst, .int .u32 s.seq, .int .u32 s.ack, .int .i64 s.flags, .int .i64 s.win, .int .i64 s.urg, .int .i64 s.mss, .int .i64 s.scale, .bool s.sack, .slice A s.blocks.length c, .bool s.timed, .int .u32 s.time, .int .u32 s.echo, .string s.data]) (#[.int .i64 s.src, .int .i64 s.dst, .int .u32 s.seq, .int .u32 s.ack, .int .i64 s.flags, .int .i64 s.win, .int .i64 s.urg, .int .i64 s.mss, .int .i64 s.scale, .bool s.sack, .slice none 0 0, .bool s.timed, .int .u32 s.time, .int .u32 s.echo, .string s.data]) 38 38 (w1.alloc (.cells #[.int .i64 s.src, .int .i64 s.dst, .int .u32 s.seq, .int .u32 s.ack, .int .i64 s.flags, .int .i64 s.win, .int .i64 s.urg, .int .i64 s.mss, .int .i64 s.scale, .bool s.sack, .slice none 0 0, .bool s.timed, .int .u32 s.time, .int .u32 s.echo, .string s.data] 38)) := ⟨BK11_.out, BK12_.out, OK13_.out, HB14_.out⟩
  obtain ⟨F1_, F2_, F3_⟩ := F0_.all
  clear hc9_ hf10_
  go_region_held3 (fun w' => Fr2 s A c w w.heap.size w1.heap.size (#[.int .i64 s.src, .int .i64 s.dst, .int .u32 s.seq, .int .u32 s.ack, .int .i64 s.flags, .int .i64 s.win, .int .i64 s.urg, .int .i64 s.mss, .int .i64 s.scale, .bool s.sack, .slice A s.blocks.length c, .bool s.timed, .int .u32 s.time, .int .u32 s.echo, .string s.data]) (#[.int .i64 s.src, .int .i64 s.dst, .int .u32 s.seq, .int .u32 s.ack, .int .i64 s.flags, .int .i64 s.win, .int .i64 s.urg, .int .i64 s.mss, .int .i64 s.scale, .bool s.sack, .slice none 0 0, .bool s.timed, .int .u32 s.time, .int .u32 s.echo, .string s.data]) 38 38 w' ∧ (∀ i, w'.cell? ⟨w.heap.size, i, none⟩ = (#[.int .i64 s.src, .int .i64 s.dst, .int .u32 s.seq, .int .u32 s.ack, .int .i64 s.flags, .int .i64 s.win, .int .i64 s.urg, .int .i64 s.mss, .int .i64 s.scale, .bool s.sack, .slice A s.blocks.length c, .bool s.timed, .int .u32 s.time, .int .u32 s.echo, .string s.data])[i]?) ∧ (∀ i, w'.cell? ⟨w1.heap.size, i, none⟩ = (#[.int .i64 s.src, .int .i64 s.dst, .int .u32 s.seq, .int .u32 s.ack, .int .i64 s.flags, .int .i64 s.win, .int .i64 s.urg, .int .i64 s.mss, .int .i64 s.scale, .bool s.sack, .slice none 0 0, .bool s.timed, .int .u32 s.time, .int .u32 s.echo, .string s.data])[i]?))
    (first | exact Fr2.keep (Fr2.keep F1_ (Below.refl _ _).drew).1 (by assumption) | exact Fr2.keep2 (by assumption) (by assumption) | exact Fr2.keep (by assumption) (by assumption) | exact Fr2.keep (by assumption) (Below.refl _ _).drew)
    (first
      | (go_at_call 33; refine (ni (c_end (s := s) (A := A) (c := c) (Fr2.ok1 F1_) hd2) EN.out).mono ?_; rintro e w' ⟨rfl, hb⟩)
      | (go_at_call_of 15 (Value.int .u32 s.seq); refine (ni (dB (rampartref03_Gap.calls s.seq en _ _ (rgap_f WF.out.seq EB.out))) E1.out).mono ?_; rintro e w' ⟨rfl, hb⟩)
      | (go_at_call_of 15 (Value.int .u32 la); refine (ni (dB (rampartref03_Gap.calls la gr _ _ (rgap_f LB.out GB.out))) E2.out).mono ?_; rintro e w' ⟨rfl, hb⟩)
      | (go_at_call_of 37 (Value.agg #[.int .i64 s.src, .int .i64 s.dst, .int .u32 s.seq, .int .u32 s.ack, .int .i64 s.flags, .int .i64 s.win, .int .i64 s.urg, .int .i64 s.mss, .int .i64 s.scale, .bool s.sack, .slice none 0 0, .bool s.timed, .int .u32 s.time, .int .u32 s.echo, .string s.data]); refine (ni (c_last (s := { s with blocks := [] }) (A := none) (c := 0) ⟨Kd.C_nil _ _, Nat.le_refl _⟩) (b := s.ack) rfl).mono ?_; rintro e w' ⟨rfl, hb⟩)
      | (go_at_call 37; refine (ni (c_last (s := s) (A := A) (c := c) (Fr2.ok2 (by assumption))) LA.out).mono ?_; rintro e w' ⟨rfl, hb⟩)
      | (go_at_call 39; refine (ni (c_grant (s := s) (A := A) (c := c) 0 (Fr2.ok2 (by assumption))) GR.out).mono ?_; rintro e w' ⟨rfl, hb⟩)
      | (go_at_call 30; refine (c_known).mono ?_; rintro e w' ⟨rfl, hb⟩))
  go_wp2
  go_ret
  exact ⟨by first | rfl | (simp; done), Fr2.fin (by assumption)⟩
end Go.Proofs.Ytbmekfammbfadaa.W16
