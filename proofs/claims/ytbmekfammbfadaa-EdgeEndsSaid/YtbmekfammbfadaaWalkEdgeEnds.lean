/- A segment's end is as far from its beginning as it has bytes, and one more for each of Syn and Fin; what it grants is its window behind the latest number: for every segment; no condition. This text: the walk of the law. -/
import Derived.Test.YtbmekfammbfadaaEdge
import Derived.Test.YtbmekfammbfadaaWorld
import Derived.Test.YtbmekfammbfadaaW16
import Derived.Test.YtbmekfammbfadaaFrame
import Derived.Deep.RegionHeld3
import Derived.Test.YtbmekfammbfadaaWalkEdgeEnds11
import Derived.Test.YtbmekfammbfadaaWalkEdgeEnds10
import Derived.Test.YtbmekfammbfadaaWalkEdgeEnds01
import Derived.Test.YtbmekfammbfadaaWalkEdgeEnds00

namespace Go.Proofs.Ytbmekfammbfadaa.W16
open Go.RowKit Go.Proofs.Ytbmekfammbfadaa.PAll Go.Proofs.YtbmekfammbfadaaW.PrintWords Go.Proofs.YtbmekfammbfadaaW.PrintLast Go.Proofs.YtbmekfammbfadaaW.PrintMore Go.Proofs.Ytbmekfammbfadaa.SeqnLem Go.Proofs.Ytbmekfammbfadaa.Edge Go.Proofs.Ytbmekfammbfadaa.World_ Go.Proofs.Ytbmekfammbfadaa.Frame
attribute [local go_sem] max2_int min2_int max_two min_two max_three min_three max_four min_four
set_option linter.unusedVariables false
set_option linter.unusedSimpArgs false
set_option maxHeartbeats 8000000 in
set_option maxRecDepth 100000 in
theorem EdgeEnds {w : World} (s : Sg) (A : Option Addr) (c : Nat) (ok : s.Ok A c w) (wf : s.Wf) : Calls Try.prog 11 #[.agg #[.int .i64 s.src, .int .i64 s.dst, .int .u32 s.seq, .int .u32 s.ack, .int .i64 s.flags, .int .i64 s.win, .int .i64 s.urg, .int .i64 s.mss, .int .i64 s.scale, .bool s.sack, .slice A s.blocks.length c, .bool s.timed, .int .u32 s.time, .int .u32 s.echo, .string s.data]] w fun e w' => e = .returned (.bool true) ∧ Below w.heap.size w w' := by
  by_cases hl : lightB s = true
  · have hlen : s.data.size ≤ 5000 ∧ s.blocks.length ≤ 20 := of_decide_eq_true hl
    obtain ⟨hd, hbl⟩ := hlen
    by_cases c1 : s.flags < 0
    · have c1b : decide (s.flags < 0) = true := decide_eq_true (by omega)
      have hu38 := Try.underlying38
      have hu49 := Try.underlying49
      have hu36 := Try.underlying36
      have OK := Aside0.mk ok
      have WF := Aside0.mk wf
      clear ok wf
      have HL := Aside0.mk hl
      clear hl
      have HB1_ : Aside0 (Below w.heap.size w w) := ⟨Below.refl _ _⟩
      go_enter Try.func11, Try.ntmps11
      have BK2_ : Aside0 ((w.alloc (.cells #[.int .i64 s.src, .int .i64 s.dst, .int .u32 s.seq, .int .u32 s.ack, .int .i64 s.flags, .int .i64 s.win, .int .i64 s.urg, .int .i64 s.mss, .int .i64 s.scale, .bool s.sack, .slice A s.blocks.length c, .bool s.timed, .int .u32 s.time, .int .u32 s.echo, .string s.data] 38)).heap[w.heap.size]? = some (.cells #[.int .i64 s.src, .int .i64 s.dst, .int .u32 s.seq, .int .u32 s.ack, .int .i64 s.flags, .int .i64 s.win, .int .i64 s.urg, .int .i64 s.mss, .int .i64 s.scale, .bool s.sack, .slice A s.blocks.length c, .bool s.timed, .int .u32 s.time, .int .u32 s.echo, .string s.data] 38)) := ⟨alloc_at (by first | rfl | simp only [size_al]) _⟩
      have OK3_ : Aside0 (s.Ok A c (w.alloc (.cells #[.int .i64 s.src, .int .i64 s.dst, .int .u32 s.seq, .int .u32 s.ack, .int .i64 s.flags, .int .i64 s.win, .int .i64 s.urg, .int .i64 s.mss, .int .i64 s.scale, .bool s.sack, .slice A s.blocks.length c, .bool s.timed, .int .u32 s.time, .int .u32 s.echo, .string s.data] 38))) := ⟨OK.out.below ((Below.refl _ _).alloc (Nat.le_refl _) _)⟩
      have HB4_ : Aside0 (Below w.heap.size w (w.alloc (.cells #[.int .i64 s.src, .int .i64 s.dst, .int .u32 s.seq, .int .u32 s.ack, .int .i64 s.flags, .int .i64 s.win, .int .i64 s.urg, .int .i64 s.mss, .int .i64 s.scale, .bool s.sack, .slice A s.blocks.length c, .bool s.timed, .int .u32 s.time, .int .u32 s.echo, .string s.data] 38))) := ⟨HB1_.out.alloc HB1_.out.size _⟩
      clear HB1_
      go_wp2_with (fail)
      refine (nb (c_light (s := s) (A := A) (c := c) (by exact OK3_.out)) HL.out).mono ?_
      rintro e w1 ⟨rfl, hb1⟩
      have BK5_ : Aside0 (w1.heap[w.heap.size]? = some (.cells #[.int .i64 s.src, .int .i64 s.dst, .int .u32 s.seq, .int .u32 s.ack, .int .i64 s.flags, .int .i64 s.win, .int .i64 s.urg, .int .i64 s.mss, .int .i64 s.scale, .bool s.sack, .slice A s.blocks.length c, .bool s.timed, .int .u32 s.time, .int .u32 s.echo, .string s.data] 38 (0, 0))) := ⟨keep BK2_.out hb1⟩
      have OK6_ : Aside0 (s.Ok A c w1) := ⟨OK3_.out.below hb1⟩
      clear OK3_
      have HB7_ : Aside0 (Below w.heap.size w w1) := ⟨below_then HB4_.out HB4_.out.size hb1⟩
      have HZ8_ := Aside0.mk hb1.size
      clear hb1 HB4_ HZ8_ BK2_
      obtain ⟨hc9_, hf10_⟩ := blk_all BK5_.out
      go_wp2_with (fail)
      refine (c_known).mono ?_
      rintro e w2 ⟨rfl, hb2⟩
      clear hc9_ hf10_
      have BK11_ : Aside0 (w2.heap[w.heap.size]? = some (.cells #[.int .i64 s.src, .int .i64 s.dst, .int .u32 s.seq, .int .u32 s.ack, .int .i64 s.flags, .int .i64 s.win, .int .i64 s.urg, .int .i64 s.mss, .int .i64 s.scale, .bool s.sack, .slice A s.blocks.length c, .bool s.timed, .int .u32 s.time, .int .u32 s.echo, .string s.data] 38 (0, 0))) := ⟨keep BK5_.out hb2⟩
      have OK12_ : Aside0 (s.Ok A c w2) := ⟨OK6_.out.below hb2⟩
      clear OK6_
      have HB13_ : Aside0 (Below w.heap.size w w2) := ⟨below_then HB7_.out HB7_.out.size hb2⟩
      have HZ14_ := Aside0.mk hb2.size
      clear hb2 HB7_ HZ14_ BK5_
      obtain ⟨hc15_, hf16_⟩ := blk_all BK11_.out
      go_wp2
      go_ret
      exact ⟨by first | rfl | (simp; done), by first | exact HB13_.out | (repeat (first | exact HB13_.out | apply below_alloc | apply pw_below_drewN | apply below_drew1))⟩
    · have c1b : decide (s.flags < 0) = false := decide_eq_false (by omega)
      by_cases c2 : s.flags > 63
      · have c2b : decide (63 < s.flags) = true := decide_eq_true (by omega)
        have hu38 := Try.underlying38
        have hu49 := Try.underlying49
        have hu36 := Try.underlying36
        have OK := Aside0.mk ok
        have WF := Aside0.mk wf
        clear ok wf
        have HL := Aside0.mk hl
        clear hl
        have HB1_ : Aside0 (Below w.heap.size w w) := ⟨Below.refl _ _⟩
        go_enter Try.func11, Try.ntmps11
        have BK2_ : Aside0 ((w.alloc (.cells #[.int .i64 s.src, .int .i64 s.dst, .int .u32 s.seq, .int .u32 s.ack, .int .i64 s.flags, .int .i64 s.win, .int .i64 s.urg, .int .i64 s.mss, .int .i64 s.scale, .bool s.sack, .slice A s.blocks.length c, .bool s.timed, .int .u32 s.time, .int .u32 s.echo, .string s.data] 38)).heap[w.heap.size]? = some (.cells #[.int .i64 s.src, .int .i64 s.dst, .int .u32 s.seq, .int .u32 s.ack, .int .i64 s.flags, .int .i64 s.win, .int .i64 s.urg, .int .i64 s.mss, .int .i64 s.scale, .bool s.sack, .slice A s.blocks.length c, .bool s.timed, .int .u32 s.time, .int .u32 s.echo, .string s.data] 38)) := ⟨alloc_at (by first | rfl | simp only [size_al]) _⟩
        have OK3_ : Aside0 (s.Ok A c (w.alloc (.cells #[.int .i64 s.src, .int .i64 s.dst, .int .u32 s.seq, .int .u32 s.ack, .int .i64 s.flags, .int .i64 s.win, .int .i64 s.urg, .int .i64 s.mss, .int .i64 s.scale, .bool s.sack, .slice A s.blocks.length c, .bool s.timed, .int .u32 s.time, .int .u32 s.echo, .string s.data] 38))) := ⟨OK.out.below ((Below.refl _ _).alloc (Nat.le_refl _) _)⟩
        have HB4_ : Aside0 (Below w.heap.size w (w.alloc (.cells #[.int .i64 s.src, .int .i64 s.dst, .int .u32 s.seq, .int .u32 s.ack, .int .i64 s.flags, .int .i64 s.win, .int .i64 s.urg, .int .i64 s.mss, .int .i64 s.scale, .bool s.sack, .slice A s.blocks.length c, .bool s.timed, .int .u32 s.time, .int .u32 s.echo, .string s.data] 38))) := ⟨HB1_.out.alloc HB1_.out.size _⟩
        clear HB1_
        go_wp2_with (fail)
        refine (nb (c_light (s := s) (A := A) (c := c) (by exact OK3_.out)) HL.out).mono ?_
        rintro e w1 ⟨rfl, hb1⟩
        have BK5_ : Aside0 (w1.heap[w.heap.size]? = some (.cells #[.int .i64 s.src, .int .i64 s.dst, .int .u32 s.seq, .int .u32 s.ack, .int .i64 s.flags, .int .i64 s.win, .int .i64 s.urg, .int .i64 s.mss, .int .i64 s.scale, .bool s.sack, .slice A s.blocks.length c, .bool s.timed, .int .u32 s.time, .int .u32 s.echo, .string s.data] 38 (0, 0))) := ⟨keep BK2_.out hb1⟩
        have OK6_ : Aside0 (s.Ok A c w1) := ⟨OK3_.out.below hb1⟩
        clear OK3_
        have HB7_ : Aside0 (Below w.heap.size w w1) := ⟨below_then HB4_.out HB4_.out.size hb1⟩
        have HZ8_ := Aside0.mk hb1.size
        clear hb1 HB4_ HZ8_ BK2_
        obtain ⟨hc9_, hf10_⟩ := blk_all BK5_.out
        go_wp2_with (fail)
        refine (c_known).mono ?_
        rintro e w2 ⟨rfl, hb2⟩
        clear hc9_ hf10_
        have BK11_ : Aside0 (w2.heap[w.heap.size]? = some (.cells #[.int .i64 s.src, .int .i64 s.dst, .int .u32 s.seq, .int .u32 s.ack, .int .i64 s.flags, .int .i64 s.win, .int .i64 s.urg, .int .i64 s.mss, .int .i64 s.scale, .bool s.sack, .slice A s.blocks.length c, .bool s.timed, .int .u32 s.time, .int .u32 s.echo, .string s.data] 38 (0, 0))) := ⟨keep BK5_.out hb2⟩
        have OK12_ : Aside0 (s.Ok A c w2) := ⟨OK6_.out.below hb2⟩
        clear OK6_
        have HB13_ : Aside0 (Below w.heap.size w w2) := ⟨below_then HB7_.out HB7_.out.size hb2⟩
        have HZ14_ := Aside0.mk hb2.size
        clear hb2 HB7_ HZ14_ BK5_
        obtain ⟨hc15_, hf16_⟩ := blk_all BK11_.out
        go_wp2
        go_ret
        exact ⟨by first | rfl | (simp; done), by first | exact HB13_.out | (repeat (first | exact HB13_.out | apply below_alloc | apply pw_below_drewN | apply below_drew1))⟩
      · have c2b : decide (63 < s.flags) = false := decide_eq_false (by omega)
        by_cases c3 : s.win < 0
        · have c3b : decide (s.win < 0) = true := decide_eq_true (by omega)
          have hu38 := Try.underlying38
          have hu49 := Try.underlying49
          have hu36 := Try.underlying36
          have OK := Aside0.mk ok
          have WF := Aside0.mk wf
          clear ok wf
          have HL := Aside0.mk hl
          clear hl
          have HB1_ : Aside0 (Below w.heap.size w w) := ⟨Below.refl _ _⟩
          go_enter Try.func11, Try.ntmps11
          have BK2_ : Aside0 ((w.alloc (.cells #[.int .i64 s.src, .int .i64 s.dst, .int .u32 s.seq, .int .u32 s.ack, .int .i64 s.flags, .int .i64 s.win, .int .i64 s.urg, .int .i64 s.mss, .int .i64 s.scale, .bool s.sack, .slice A s.blocks.length c, .bool s.timed, .int .u32 s.time, .int .u32 s.echo, .string s.data] 38)).heap[w.heap.size]? = some (.cells #[.int .i64 s.src, .int .i64 s.dst, .int .u32 s.seq, .int .u32 s.ack, .int .i64 s.flags, .int .i64 s.win, .int .i64 s.urg, .int .i64 s.mss, .int .i64 s.scale, .bool s.sack, .slice A s.blocks.length c, .bool s.timed, .int .u32 s.time, .int .u32 s.echo, .string s.data] 38)) := ⟨alloc_at (by first | rfl | simp only [size_al]) _⟩
          have OK3_ : Aside0 (s.Ok A c (w.alloc (.cells #[.int .i64 s.src, .int .i64 s.dst, .int .u32 s.seq, .int .u32 s.ack, .int .i64 s.flags, .int .i64 s.win, .int .i64 s.urg, .int .i64 s.mss, .int .i64 s.scale, .bool s.sack, .slice A s.blocks.length c, .bool s.timed, .int .u32 s.time, .int .u32 s.echo, .string s.data] 38))) := ⟨OK.out.below ((Below.refl _ _).alloc (Nat.le_refl _) _)⟩
          have HB4_ : Aside0 (Below w.heap.size w (w.alloc (.cells #[.int .i64 s.src, .int .i64 s.dst, .int .u32 s.seq, .int .u32 s.ack, .int .i64 s.flags, .int .i64 s.win, .int .i64 s.urg, .int .i64 s.mss, .int .i64 s.scale, .bool s.sack, .slice A s.blocks.length c, .bool s.timed, .int .u32 s.time, .int .u32 s.echo, .string s.data] 38))) := ⟨HB1_.out.alloc HB1_.out.size _⟩
          clear HB1_
          go_wp2_with (fail)
          refine (nb (c_light (s := s) (A := A) (c := c) (by exact OK3_.out)) HL.out).mono ?_
          rintro e w1 ⟨rfl, hb1⟩
          have BK5_ : Aside0 (w1.heap[w.heap.size]? = some (.cells #[.int .i64 s.src, .int .i64 s.dst, .int .u32 s.seq, .int .u32 s.ack, .int .i64 s.flags, .int .i64 s.win, .int .i64 s.urg, .int .i64 s.mss, .int .i64 s.scale, .bool s.sack, .slice A s.blocks.length c, .bool s.timed, .int .u32 s.time, .int .u32 s.echo, .string s.data] 38 (0, 0))) := ⟨keep BK2_.out hb1⟩
          have OK6_ : Aside0 (s.Ok A c w1) := ⟨OK3_.out.below hb1⟩
          clear OK3_
          have HB7_ : Aside0 (Below w.heap.size w w1) := ⟨below_then HB4_.out HB4_.out.size hb1⟩
          have HZ8_ := Aside0.mk hb1.size
          clear hb1 HB4_ HZ8_ BK2_
          obtain ⟨hc9_, hf10_⟩ := blk_all BK5_.out
          go_wp2_with (fail)
          refine (c_known).mono ?_
          rintro e w2 ⟨rfl, hb2⟩
          clear hc9_ hf10_
          have BK11_ : Aside0 (w2.heap[w.heap.size]? = some (.cells #[.int .i64 s.src, .int .i64 s.dst, .int .u32 s.seq, .int .u32 s.ack, .int .i64 s.flags, .int .i64 s.win, .int .i64 s.urg, .int .i64 s.mss, .int .i64 s.scale, .bool s.sack, .slice A s.blocks.length c, .bool s.timed, .int .u32 s.time, .int .u32 s.echo, .string s.data] 38 (0, 0))) := ⟨keep BK5_.out hb2⟩
          have OK12_ : Aside0 (s.Ok A c w2) := ⟨OK6_.out.below hb2⟩
          clear OK6_
          have HB13_ : Aside0 (Below w.heap.size w w2) := ⟨below_then HB7_.out HB7_.out.size hb2⟩
          have HZ14_ := Aside0.mk hb2.size
          clear hb2 HB7_ HZ14_ BK5_
          obtain ⟨hc15_, hf16_⟩ := blk_all BK11_.out
          go_wp2
          go_ret
          exact ⟨by first | rfl | (simp; done), by first | exact HB13_.out | (repeat (first | exact HB13_.out | apply below_alloc | apply pw_below_drewN | apply below_drew1))⟩
        · have c3b : decide (s.win < 0) = false := decide_eq_false (by omega)
          by_cases c4 : s.win > 65535
          · have c4b : decide (65535 < s.win) = true := decide_eq_true (by omega)
            have hu38 := Try.underlying38
            have hu49 := Try.underlying49
            have hu36 := Try.underlying36
            have OK := Aside0.mk ok
            have WF := Aside0.mk wf
            clear ok wf
            have HL := Aside0.mk hl
            clear hl
            have HB1_ : Aside0 (Below w.heap.size w w) := ⟨Below.refl _ _⟩
            go_enter Try.func11, Try.ntmps11
            have BK2_ : Aside0 ((w.alloc (.cells #[.int .i64 s.src, .int .i64 s.dst, .int .u32 s.seq, .int .u32 s.ack, .int .i64 s.flags, .int .i64 s.win, .int .i64 s.urg, .int .i64 s.mss, .int .i64 s.scale, .bool s.sack, .slice A s.blocks.length c, .bool s.timed, .int .u32 s.time, .int .u32 s.echo, .string s.data] 38)).heap[w.heap.size]? = some (.cells #[.int .i64 s.src, .int .i64 s.dst, .int .u32 s.seq, .int .u32 s.ack, .int .i64 s.flags, .int .i64 s.win, .int .i64 s.urg, .int .i64 s.mss, .int .i64 s.scale, .bool s.sack, .slice A s.blocks.length c, .bool s.timed, .int .u32 s.time, .int .u32 s.echo, .string s.data] 38)) := ⟨alloc_at (by first | rfl | simp only [size_al]) _⟩
            have OK3_ : Aside0 (s.Ok A c (w.alloc (.cells #[.int .i64 s.src, .int .i64 s.dst, .int .u32 s.seq, .int .u32 s.ack, .int .i64 s.flags, .int .i64 s.win, .int .i64 s.urg, .int .i64 s.mss, .int .i64 s.scale, .bool s.sack, .slice A s.blocks.length c, .bool s.timed, .int .u32 s.time, .int .u32 s.echo, .string s.data] 38))) := ⟨OK.out.below ((Below.refl _ _).alloc (Nat.le_refl _) _)⟩
            have HB4_ : Aside0 (Below w.heap.size w (w.alloc (.cells #[.int .i64 s.src, .int .i64 s.dst, .int .u32 s.seq, .int .u32 s.ack, .int .i64 s.flags, .int .i64 s.win, .int .i64 s.urg, .int .i64 s.mss, .int .i64 s.scale, .bool s.sack, .slice A s.blocks.length c, .bool s.timed, .int .u32 s.time, .int .u32 s.echo, .string s.data] 38))) := ⟨HB1_.out.alloc HB1_.out.size _⟩
            clear HB1_
            go_wp2_with (fail)
            refine (nb (c_light (s := s) (A := A) (c := c) (by exact OK3_.out)) HL.out).mono ?_
            rintro e w1 ⟨rfl, hb1⟩
            have BK5_ : Aside0 (w1.heap[w.heap.size]? = some (.cells #[.int .i64 s.src, .int .i64 s.dst, .int .u32 s.seq, .int .u32 s.ack, .int .i64 s.flags, .int .i64 s.win, .int .i64 s.urg, .int .i64 s.mss, .int .i64 s.scale, .bool s.sack, .slice A s.blocks.length c, .bool s.timed, .int .u32 s.time, .int .u32 s.echo, .string s.data] 38 (0, 0))) := ⟨keep BK2_.out hb1⟩
            have OK6_ : Aside0 (s.Ok A c w1) := ⟨OK3_.out.below hb1⟩
            clear OK3_
            have HB7_ : Aside0 (Below w.heap.size w w1) := ⟨below_then HB4_.out HB4_.out.size hb1⟩
            have HZ8_ := Aside0.mk hb1.size
            clear hb1 HB4_ HZ8_ BK2_
            obtain ⟨hc9_, hf10_⟩ := blk_all BK5_.out
            go_wp2_with (fail)
            refine (c_known).mono ?_
            rintro e w2 ⟨rfl, hb2⟩
            clear hc9_ hf10_
            have BK11_ : Aside0 (w2.heap[w.heap.size]? = some (.cells #[.int .i64 s.src, .int .i64 s.dst, .int .u32 s.seq, .int .u32 s.ack, .int .i64 s.flags, .int .i64 s.win, .int .i64 s.urg, .int .i64 s.mss, .int .i64 s.scale, .bool s.sack, .slice A s.blocks.length c, .bool s.timed, .int .u32 s.time, .int .u32 s.echo, .string s.data] 38 (0, 0))) := ⟨keep BK5_.out hb2⟩
            have OK12_ : Aside0 (s.Ok A c w2) := ⟨OK6_.out.below hb2⟩
            clear OK6_
            have HB13_ : Aside0 (Below w.heap.size w w2) := ⟨below_then HB7_.out HB7_.out.size hb2⟩
            have HZ14_ := Aside0.mk hb2.size
            clear hb2 HB7_ HZ14_ BK5_
            obtain ⟨hc15_, hf16_⟩ := blk_all BK11_.out
            go_wp2
            go_ret
            exact ⟨by first | rfl | (simp; done), by first | exact HB13_.out | (repeat (first | exact HB13_.out | apply below_alloc | apply pw_below_drewN | apply below_drew1))⟩
          · have c4b : decide (65535 < s.win) = false := decide_eq_false (by omega)
            exact by
              by_cases hsy : Syn s.flags <;> by_cases hfi : Fin_ s.flags
              · exact ends11 s A c ok wf hl hd (by omega) (by omega) (by omega) (by omega) hsy hfi
              · exact ends10 s A c ok wf hl hd (by omega) (by omega) (by omega) (by omega) hsy hfi
              · exact ends01 s A c ok wf hl hd (by omega) (by omega) (by omega) (by omega) hsy hfi
              · exact ends00 s A c ok wf hl hd (by omega) (by omega) (by omega) (by omega) hsy hfi
  · replace hl := Bool.eq_false_iff.mpr hl
    have hu38 := Try.underlying38
    have hu49 := Try.underlying49
    have hu36 := Try.underlying36
    have OK := Aside0.mk ok
    have WF := Aside0.mk wf
    clear ok wf
    have HL := Aside0.mk hl
    clear hl
    have HB1_ : Aside0 (Below w.heap.size w w) := ⟨Below.refl _ _⟩
    go_enter Try.func11, Try.ntmps11
    have BK2_ : Aside0 ((w.alloc (.cells #[.int .i64 s.src, .int .i64 s.dst, .int .u32 s.seq, .int .u32 s.ack, .int .i64 s.flags, .int .i64 s.win, .int .i64 s.urg, .int .i64 s.mss, .int .i64 s.scale, .bool s.sack, .slice A s.blocks.length c, .bool s.timed, .int .u32 s.time, .int .u32 s.echo, .string s.data] 38)).heap[w.heap.size]? = some (.cells #[.int .i64 s.src, .int .i64 s.dst, .int .u32 s.seq, .int .u32 s.ack, .int .i64 s.flags, .int .i64 s.win, .int .i64 s.urg, .int .i64 s.mss, .int .i64 s.scale, .bool s.sack, .slice A s.blocks.length c, .bool s.timed, .int .u32 s.time, .int .u32 s.echo, .string s.data] 38)) := ⟨alloc_at (by first | rfl | simp only [size_al]) _⟩
    have OK3_ : Aside0 (s.Ok A c (w.alloc (.cells #[.int .i64 s.src, .int .i64 s.dst, .int .u32 s.seq, .int .u32 s.ack, .int .i64 s.flags, .int .i64 s.win, .int .i64 s.urg, .int .i64 s.mss, .int .i64 s.scale, .bool s.sack, .slice A s.blocks.length c, .bool s.timed, .int .u32 s.time, .int .u32 s.echo, .string s.data] 38))) := ⟨OK.out.below ((Below.refl _ _).alloc (Nat.le_refl _) _)⟩
    have HB4_ : Aside0 (Below w.heap.size w (w.alloc (.cells #[.int .i64 s.src, .int .i64 s.dst, .int .u32 s.seq, .int .u32 s.ack, .int .i64 s.flags, .int .i64 s.win, .int .i64 s.urg, .int .i64 s.mss, .int .i64 s.scale, .bool s.sack, .slice A s.blocks.length c, .bool s.timed, .int .u32 s.time, .int .u32 s.echo, .string s.data] 38))) := ⟨HB1_.out.alloc HB1_.out.size _⟩
    clear HB1_
    go_wp2_with (fail)
    refine (nb (c_light (s := s) (A := A) (c := c) (by exact OK3_.out)) HL.out).mono ?_
    rintro e w1 ⟨rfl, hb1⟩
    have BK5_ : Aside0 (w1.heap[w.heap.size]? = some (.cells #[.int .i64 s.src, .int .i64 s.dst, .int .u32 s.seq, .int .u32 s.ack, .int .i64 s.flags, .int .i64 s.win, .int .i64 s.urg, .int .i64 s.mss, .int .i64 s.scale, .bool s.sack, .slice A s.blocks.length c, .bool s.timed, .int .u32 s.time, .int .u32 s.echo, .string s.data] 38 (0, 0))) := ⟨keep BK2_.out hb1⟩
    have OK6_ : Aside0 (s.Ok A c w1) := ⟨OK3_.out.below hb1⟩
    clear OK3_
    have HB7_ : Aside0 (Below w.heap.size w w1) := ⟨below_then HB4_.out HB4_.out.size hb1⟩
    have HZ8_ := Aside0.mk hb1.size
    clear hb1 HB4_ HZ8_ BK2_
    obtain ⟨hc9_, hf10_⟩ := blk_all BK5_.out
    go_wp2_with (fail)
    refine (c_known).mono ?_
    rintro e w2 ⟨rfl, hb2⟩
    clear hc9_ hf10_
    have BK11_ : Aside0 (w2.heap[w.heap.size]? = some (.cells #[.int .i64 s.src, .int .i64 s.dst, .int .u32 s.seq, .int .u32 s.ack, .int .i64 s.flags, .int .i64 s.win, .int .i64 s.urg, .int .i64 s.mss, .int .i64 s.scale, .bool s.sack, .slice A s.blocks.length c, .bool s.timed, .int .u32 s.time, .int .u32 s.echo, .string s.data] 38 (0, 0))) := ⟨keep BK5_.out hb2⟩
    have OK12_ : Aside0 (s.Ok A c w2) := ⟨OK6_.out.below hb2⟩
    clear OK6_
    have HB13_ : Aside0 (Below w.heap.size w w2) := ⟨below_then HB7_.out HB7_.out.size hb2⟩
    have HZ14_ := Aside0.mk hb2.size
    clear hb2 HB7_ HZ14_ BK5_
    obtain ⟨hc15_, hf16_⟩ := blk_all BK11_.out
    go_wp2
    go_ret
    exact ⟨by first | rfl | (simp; done), by first | exact HB13_.out | (repeat (first | exact HB13_.out | apply below_alloc | apply pw_below_drewN | apply below_drew1))⟩
end Go.Proofs.Ytbmekfammbfadaa.W16
