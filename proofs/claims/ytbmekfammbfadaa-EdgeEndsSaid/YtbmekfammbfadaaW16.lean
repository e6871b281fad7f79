/- What the law's fixed calls come to: true; and the test of a segment's size. No conditions. (A part of the laws of layer 16.) -/
import Derived.Test.YtbmekfammbfadaaEdge
import Derived.Test.YtbmekfammbfadaaWorld
import Derived.Test.YtbmekfammbfadaaPAllx5
namespace Go.Proofs.Ytbmekfammbfadaa.W16
open Go.RowKit Go.Proofs.Ytbmekfammbfadaa.PAll Go.Proofs.YtbmekfammbfadaaW.PrintWords Go.Proofs.YtbmekfammbfadaaW.PrintLast Go.Proofs.YtbmekfammbfadaaW.PrintMore Go.Proofs.Ytbmekfammbfadaa.SeqnLem Go.Proofs.Ytbmekfammbfadaa.Edge Go.Proofs.Ytbmekfammbfadaa.World_
attribute [local go_sem] max2_int min2_int max_two min_two max_three min_three max_four min_four
set_option linter.unusedVariables false
set_option linter.unusedSimpArgs false
set_option maxHeartbeats 8000000 in
set_option maxRecDepth 100000 in
theorem c_known {w : World} : Calls Try.prog 30 #[] w fun e w' => e = .returned (.bool true) ∧ Below w.heap.size w w' := by
  have hu38 := Try.underlying38
  have hu49 := Try.underlying49
  have hu36 := Try.underlying36
  have HB1_ : Aside0 (Below w.heap.size w w) := ⟨Below.refl _ _⟩
  go_enter Try.func30, Try.ntmps30
  have BK2_ : Aside0 ((w.alloc (.cells #[.int .u32 15, .int .u32 20] 49)).heap[w.heap.size]? = some (.cells #[.int .u32 15, .int .u32 20] 49)) := ⟨alloc_at (by first | rfl | simp only [size_al]) _⟩
  have HB3_ : Aside0 (Below w.heap.size w (w.alloc (.cells #[.int .u32 15, .int .u32 20] 49))) := ⟨HB1_.out.alloc HB1_.out.size _⟩
  clear HB1_
  have BK4_ := Aside0.mk (alloc_old BK2_.out (.cells #[.int .i64 0, .int .i64 0, .int .u32 4294967295, .int .u32 10, .int .i64 17, .int .i64 100, .int .i64 0, .int .i64 0, .int .i64 0, .bool false, .slice (some ⟨w.heap.size, 0, none⟩) 1 1, .bool false, .int .u32 0, .int .u32 0, .string ⟨#[97, 98]⟩] 38))
  have BK5_ : Aside0 (((w.alloc (.cells #[.int .u32 15, .int .u32 20] 49)).alloc (.cells #[.int .i64 0, .int .i64 0, .int .u32 4294967295, .int .u32 10, .int .i64 17, .int .i64 100, .int .i64 0, .int .i64 0, .int .i64 0, .bool false, .slice (some ⟨w.heap.size, 0, none⟩) 1 1, .bool false, .int .u32 0, .int .u32 0, .string ⟨#[97, 98]⟩] 38)).heap[(w.heap.size + 1)]? = some (.cells #[.int .i64 0, .int .i64 0, .int .u32 4294967295, .int .u32 10, .int .i64 17, .int .i64 100, .int .i64 0, .int .i64 0, .int .i64 0, .bool false, .slice (some ⟨w.heap.size, 0, none⟩) 1 1, .bool false, .int .u32 0, .int .u32 0, .string ⟨#[97, 98]⟩] 38)) := ⟨alloc_at (by first | rfl | simp only [size_al]) _⟩
  have HB6_ : Aside0 (Below w.heap.size w ((w.alloc (.cells #[.int .u32 15, .int .u32 20] 49)).alloc (.cells #[.int .i64 0, .int .i64 0, .int .u32 4294967295, .int .u32 10, .int .i64 17, .int .i64 100, .int .i64 0, .int .i64 0, .int .i64 0, .bool false, .slice (some ⟨w.heap.size, 0, none⟩) 1 1, .bool false, .int .u32 0, .int .u32 0, .string ⟨#[97, 98]⟩] 38))) := ⟨HB3_.out.alloc HB3_.out.size _⟩
  clear HB3_ BK2_
  have OK7_ : Aside0 (Sg.Ok ⟨0, 0, 4294967295, 10, 17, 100, 0, 0, 0, false, [⟨15, 20⟩], false, 0, 0, ⟨#[97, 98]⟩⟩ (some ⟨w.heap.size, 0, none⟩) 1 ((w.alloc (.cells #[.int .u32 15, .int .u32 20] 49)).alloc (.cells #[.int .i64 0, .int .i64 0, .int .u32 4294967295, .int .u32 10, .int .i64 17, .int .i64 100, .int .i64 0, .int .i64 0, .int .i64 0, .bool false, .slice (some ⟨w.heap.size, 0, none⟩) 1 1, .bool false, .int .u32 0, .int .u32 0, .string ⟨#[97, 98]⟩] 38))) := ⟨⟨row_one (b := ⟨15, 20⟩) BK4_.out, by decide⟩⟩
  go_wp2_with (fail)
  refine (n2 (c_agree 3 (-1)) (a' := 0) (b' := 0) (by decide) (by decide)).mono ?_
  rintro e w1 ⟨rfl, hb1⟩
  have BK8_ : Aside0 (w1.heap[(w.heap.size + 1)]? = some (.cells #[.int .i64 0, .int .i64 0, .int .u32 4294967295, .int .u32 10, .int .i64 17, .int .i64 100, .int .i64 0, .int .i64 0, .int .i64 0, .bool false, .slice (some ⟨w.heap.size, 0, none⟩) 1 1, .bool false, .int .u32 0, .int .u32 0, .string ⟨#[97, 98]⟩] 38 (0, 0))) := ⟨keep BK5_.out hb1⟩
  have OK9_ : Aside0 (Sg.Ok ⟨0, 0, 4294967295, 10, 17, 100, 0, 0, 0, false, [⟨15, 20⟩], false, 0, 0, ⟨#[97, 98]⟩⟩ (some ⟨w.heap.size, 0, none⟩) 1 w1) := ⟨OK7_.out.below hb1⟩
  clear OK7_
  have HB10_ : Aside0 (Below w.heap.size w w1) := ⟨below_then HB6_.out HB6_.out.size hb1⟩
  have HZ11_ := Aside0.mk hb1.size
  clear hb1 HB6_ HZ11_ BK5_
  obtain ⟨hc12_, hf13_⟩ := blk_all BK8_.out
  go_wp2_with (fail)
  refine (n2 (c_agree 3 15) (a' := 3) (b' := 14) (by decide) (by decide)).mono ?_
  rintro e w2 ⟨rfl, hb2⟩
  clear hc12_ hf13_
  have BK14_ : Aside0 (w2.heap[(w.heap.size + 1)]? = some (.cells #[.int .i64 0, .int .i64 0, .int .u32 4294967295, .int .u32 10, .int .i64 17, .int .i64 100, .int .i64 0, .int .i64 0, .int .i64 0, .bool false, .slice (some ⟨w.heap.size, 0, none⟩) 1 1, .bool false, .int .u32 0, .int .u32 0, .string ⟨#[97, 98]⟩] 38 (0, 0))) := ⟨keep BK8_.out hb2⟩
  have OK15_ : Aside0 (Sg.Ok ⟨0, 0, 4294967295, 10, 17, 100, 0, 0, 0, false, [⟨15, 20⟩], false, 0, 0, ⟨#[97, 98]⟩⟩ (some ⟨w.heap.size, 0, none⟩) 1 w2) := ⟨OK9_.out.below hb2⟩
  clear OK9_
  have HB16_ : Aside0 (Below w.heap.size w w2) := ⟨below_then HB10_.out HB10_.out.size hb2⟩
  have HZ17_ := Aside0.mk hb2.size
  clear hb2 HB10_ HZ17_ BK8_
  obtain ⟨hc18_, hf19_⟩ := blk_all BK14_.out
  go_wp2_with (fail)
  refine (ni (b := 2) (c_end (s := ⟨0, 0, 4294967295, 10, 17, 100, 0, 0, 0, false, [⟨15, 20⟩], false, 0, 0, ⟨#[97, 98]⟩⟩) (A := (some ⟨w.heap.size, 0, none⟩)) (c := 1) (by exact OK15_.out) (by decide)) (by decide +kernel)).mono ?_
  rintro e w3 ⟨rfl, hb3⟩
  clear hc18_ hf19_
  have BK20_ : Aside0 (w3.heap[(w.heap.size + 1)]? = some (.cells #[.int .i64 0, .int .i64 0, .int .u32 4294967295, .int .u32 10, .int .i64 17, .int .i64 100, .int .i64 0, .int .i64 0, .int .i64 0, .bool false, .slice (some ⟨w.heap.size, 0, none⟩) 1 1, .bool false, .int .u32 0, .int .u32 0, .string ⟨#[97, 98]⟩] 38 (0, 0))) := ⟨keep BK14_.out hb3⟩
  have OK21_ : Aside0 (Sg.Ok ⟨0, 0, 4294967295, 10, 17, 100, 0, 0, 0, false, [⟨15, 20⟩], false, 0, 0, ⟨#[97, 98]⟩⟩ (some ⟨w.heap.size, 0, none⟩) 1 w3) := ⟨OK15_.out.below hb3⟩
  clear OK15_
  have HB22_ : Aside0 (Below w.heap.size w w3) := ⟨below_then HB16_.out HB16_.out.size hb3⟩
  have HZ23_ := Aside0.mk hb3.size
  clear hb3 HB16_ HZ23_ BK14_
  obtain ⟨hc24_, hf25_⟩ := blk_all BK20_.out
  go_wp2_with (fail)
  refine (ni (b := 800) (c_shift 100 3 false) (by decide +kernel)).mono ?_
  rintro e w4 ⟨rfl, hb4⟩
  clear hc24_ hf25_
  have BK26_ : Aside0 (w4.heap[(w.heap.size + 1)]? = some (.cells #[.int .i64 0, .int .i64 0, .int .u32 4294967295, .int .u32 10, .int .i64 17, .int .i64 100, .int .i64 0, .int .i64 0, .int .i64 0, .bool false, .slice (some ⟨w.heap.size, 0, none⟩) 1 1, .bool false, .int .u32 0, .int .u32 0, .string ⟨#[97, 98]⟩] 38 (0, 0))) := ⟨keep BK20_.out hb4⟩
  have OK27_ : Aside0 (Sg.Ok ⟨0, 0, 4294967295, 10, 17, 100, 0, 0, 0, false, [⟨15, 20⟩], false, 0, 0, ⟨#[97, 98]⟩⟩ (some ⟨w.heap.size, 0, none⟩) 1 w4) := ⟨OK21_.out.below hb4⟩
  clear OK21_
  have HB28_ : Aside0 (Below w.heap.size w w4) := ⟨below_then HB22_.out HB22_.out.size hb4⟩
  have HZ29_ := Aside0.mk hb4.size
  clear hb4 HB22_ HZ29_ BK20_
  obtain ⟨hc30_, hf31_⟩ := blk_all BK26_.out
  go_wp2_with (fail)
  refine (ni (b := 100) (c_shift 100 3 true) (by decide +kernel)).mono ?_
  rintro e w5 ⟨rfl, hb5⟩
  clear hc30_ hf31_
  have BK32_ : Aside0 (w5.heap[(w.heap.size + 1)]? = some (.cells #[.int .i64 0, .int .i64 0, .int .u32 4294967295, .int .u32 10, .int .i64 17, .int .i64 100, .int .i64 0, .int .i64 0, .int .i64 0, .bool false, .slice (some ⟨w.heap.size, 0, none⟩) 1 1, .bool false, .int .u32 0, .int .u32 0, .string ⟨#[97, 98]⟩] 38 (0, 0))) := ⟨keep BK26_.out hb5⟩
  have OK33_ : Aside0 (Sg.Ok ⟨0, 0, 4294967295, 10, 17, 100, 0, 0, 0, false, [⟨15, 20⟩], false, 0, 0, ⟨#[97, 98]⟩⟩ (some ⟨w.heap.size, 0, none⟩) 1 w5) := ⟨OK27_.out.below hb5⟩
  clear OK27_
  have HB34_ : Aside0 (Below w.heap.size w w5) := ⟨below_then HB28_.out HB28_.out.size hb5⟩
  have HZ35_ := Aside0.mk hb5.size
  clear hb5 HB28_ HZ35_ BK26_
  obtain ⟨hc36_, hf37_⟩ := blk_all BK32_.out
  go_wp2_with (fail)
  refine (ni (b := 20) (c_last (s := ⟨0, 0, 4294967295, 10, 17, 100, 0, 0, 0, false, [⟨15, 20⟩], false, 0, 0, ⟨#[97, 98]⟩⟩) (A := (some ⟨w.heap.size, 0, none⟩)) (c := 1) (by exact OK33_.out)) (by decide +kernel)).mono ?_
  rintro e w6 ⟨rfl, hb6⟩
  clear hc36_ hf37_
  have BK38_ : Aside0 (w6.heap[(w.heap.size + 1)]? = some (.cells #[.int .i64 0, .int .i64 0, .int .u32 4294967295, .int .u32 10, .int .i64 17, .int .i64 100, .int .i64 0, .int .i64 0, .int .i64 0, .bool false, .slice (some ⟨w.heap.size, 0, none⟩) 1 1, .bool false, .int .u32 0, .int .u32 0, .string ⟨#[97, 98]⟩] 38 (0, 0))) := ⟨keep BK32_.out hb6⟩
  have OK39_ : Aside0 (Sg.Ok ⟨0, 0, 4294967295, 10, 17, 100, 0, 0, 0, false, [⟨15, 20⟩], false, 0, 0, ⟨#[97, 98]⟩⟩ (some ⟨w.heap.size, 0, none⟩) 1 w6) := ⟨OK33_.out.below hb6⟩
  clear OK33_
  have HB40_ : Aside0 (Below w.heap.size w w6) := ⟨below_then HB34_.out HB34_.out.size hb6⟩
  have HZ41_ := Aside0.mk hb6.size
  clear hb6 HB34_ HZ41_ BK32_
  obtain ⟨hc42_, hf43_⟩ := blk_all BK38_.out
  go_wp2_with (fail)
  refine (ni (b := 220) (c_grant (s := ⟨0, 0, 4294967295, 10, 17, 100, 0, 0, 0, false, [⟨15, 20⟩], false, 0, 0, ⟨#[97, 98]⟩⟩) (A := (some ⟨w.heap.size, 0, none⟩)) (c := 1) 1 (by exact OK39_.out)) (by decide +kernel)).mono ?_
  rintro e w7 ⟨rfl, hb7⟩
  clear hc42_ hf43_
  have BK44_ : Aside0 (w7.heap[(w.heap.size + 1)]? = some (.cells #[.int .i64 0, .int .i64 0, .int .u32 4294967295, .int .u32 10, .int .i64 17, .int .i64 100, .int .i64 0, .int .i64 0, .int .i64 0, .bool false, .slice (some ⟨w.heap.size, 0, none⟩) 1 1, .bool false, .int .u32 0, .int .u32 0, .string ⟨#[97, 98]⟩] 38 (0, 0))) := ⟨keep BK38_.out hb7⟩
  have OK45_ : Aside0 (Sg.Ok ⟨0, 0, 4294967295, 10, 17, 100, 0, 0, 0, false, [⟨15, 20⟩], false, 0, 0, ⟨#[97, 98]⟩⟩ (some ⟨w.heap.size, 0, none⟩) 1 w7) := ⟨OK39_.out.below hb7⟩
  clear OK39_
  have HB46_ : Aside0 (Below w.heap.size w w7) := ⟨below_then HB40_.out HB40_.out.size hb7⟩
  have HZ47_ := Aside0.mk hb7.size
  clear hb7 HB40_ HZ47_ BK38_
  obtain ⟨hc48_, hf49_⟩ := blk_all BK44_.out
  go_wp2
  go_ret
  exact ⟨by first | rfl | (simp; done), by first | exact HB46_.out | (repeat (first | exact HB46_.out | apply below_alloc | apply pw_below_drewN | apply below_drew1))⟩
theorem W0_id {n : Int} (h0 : 0 ≤ n) (h1 : n ≤ 65535) : W0 n = n := by unfold W0 mx mn; split <;> split <;> omega
def lightB (s : Sg) : Bool := decide (s.data.size ≤ 5000 ∧ s.blocks.length ≤ 20)
theorem c_light {s : Sg} {A : Option Addr} {c : Nat} {w : World} (ok : s.Ok A c w) : Calls Try.prog 29 #[s.V A c] w fun e w' => e = .returned (.bool (lightB s)) ∧ Below w.heap.size w w' :=
  rampartlaw16_light.calls s.src s.dst s.seq s.ack s.flags s.win s.urg s.mss s.scale s.sack A c s.blocks s.timed s.time s.echo s.data _ w ok.1 ok.2 (by
    unfold rampartlaw16_light.f lightB
    by_cases h1 : s.data.size ≤ 5000
    · rw [if_pos (by omega)]
      exact congrArg some (decide_eq_decide.2 (by omega))
    · rw [if_neg (by omega), decide_eq_false (by omega)])
end Go.Proofs.Ytbmekfammbfadaa.W16
