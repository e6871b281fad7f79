-- Written by a program of this work (wip/mkprint.py, wip/myprint.sh) out of the translation; not trusted: Lean checks it.
import Derived.Test.YtfgpcaadgfgkcaaPAllx0
import Derived.Test.YtfgpcaadgfgkcaaPAllx4
namespace Go.Proofs.Ytfgpcaadgfgkcaa.PAll
open Go.RowKit Go.Proofs.YtfgpcaadgfgkcaaW.PrintWords Go.Proofs.YtfgpcaadgfgkcaaW.PrintLast Go.Proofs.YtfgpcaadgfgkcaaW.PrintMore
attribute [local go_sem] max2_int min2_int max_two min_two max_three min_three max_four min_four   -- for this text's walks alone
set_option linter.unusedVariables false
set_option linter.unusedSimpArgs false

/-! ### rampartref16_Last: function 42 -/
def rampartref16_Last.l0 : Nat → Int → Int → Int → Int → Int → Int → Int → Int → Int → Int → Int → Bool → List (S44) → Bool → Int → Int → ByteArray → Option (Int)
  | 0, _, _, _, _, _, _, _, _, _, _, _, _, _, _, _, _, _ => none
  | k + 1, x3, x4, x133000, x133001, x133002, x133003, x133004, x133005, x133006, x133007, x133008, x133009, x133010, x133011, x133012, x133013, x133014 => if x4 < (x133010.length : Int) then (if 0 ≤ x4 then ((rampartref03_Later.f x3 ((rd_T44 x133010 x4).f1)).bind fun t134 => (rampartref16_Last.l0 k t134 (wrap64 (x4 + 1)) x133000 x133001 x133002 x133003 x133004 x133005 x133006 x133007 x133008 x133009 x133010 x133011 x133012 x133013 x133014)) else (none)) else (some x3)
def rampartref16_Last.f (k : Nat) (a0_0 : Int) (a0_1 : Int) (a0_2 : Int) (a0_3 : Int) (a0_4 : Int) (a0_5 : Int) (a0_6 : Int) (a0_7 : Int) (a0_8 : Int) (a0_9 : Bool) (l0_10 : List (S44)) (a0_11 : Bool) (a0_12 : Int) (a0_13 : Int) (a0_14 : ByteArray) : Option (Int) := rampartref16_Last.l0 k a0_3 0 a0_0 a0_1 a0_2 a0_3 a0_4 a0_5 a0_6 a0_7 a0_8 a0_9 l0_10 a0_11 a0_12 a0_13 a0_14
theorem rampartref16_Last.mono_l : ∀ k, (∀ y0 y1 y2 y3 y4 y5 y6 y7 y8 y9 y10 y11 y12 y13 y14 y15 y16, LeO (rampartref16_Last.l0 k y0 y1 y2 y3 y4 y5 y6 y7 y8 y9 y10 y11 y12 y13 y14 y15 y16) (rampartref16_Last.l0 (k + 1) y0 y1 y2 y3 y4 y5 y6 y7 y8 y9 y10 y11 y12 y13 y14 y15 y16))
  | 0 => fun _ _ _ _ _ _ _ _ _ _ _ _ _ _ _ _ _ r h => by simp [rampartref16_Last.l0] at h
  | k + 1 => by
    have ih0 := rampartref16_Last.mono_l k
    · intro y0 y1 y2 y3 y4 y5 y6 y7 y8 y9 y10 y11 y12 y13 y14 y15 y16
      unfold rampartref16_Last.l0
      repeat' first
      | (with_reducible exact ih0 _ _ _ _ _ _ _ _ _ _ _ _ _ _ _ _ _)
      | (with_reducible exact LeO.refl _)
      | (with_reducible exact LeO.none _)
      | (with_reducible refine LeO.ite ?_ ?_)
      | (with_reducible refine LeO.bind ?_ (fun _ => ?_))
      | exact ih0 _ _ _ _ _ _ _ _ _ _ _ _ _ _ _ _ _
      | exact LeO.none _
      | refine LeO.ite ?_ ?_
      | refine LeO.bind ?_ (fun _ => ?_)
theorem rampartref16_Last.mono : ∀ a0 a1 a2 a3 a4 a5 a6 a7 a8 a9 a10 a11 a12 a13 a14 k, LeO (rampartref16_Last.f k a0 a1 a2 a3 a4 a5 a6 a7 a8 a9 a10 a11 a12 a13 a14) (rampartref16_Last.f (k + 1) a0 a1 a2 a3 a4 a5 a6 a7 a8 a9 a10 a11 a12 a13 a14) := by
  intro a0 a1 a2 a3 a4 a5 a6 a7 a8 a9 a10 a11 a12 a13 a14 k
  have ih0 := rampartref16_Last.mono_l k
  unfold rampartref16_Last.f
  repeat' first
      | (with_reducible exact ih0 _ _ _ _ _ _ _ _ _ _ _ _ _ _ _ _ _)
      | (with_reducible exact LeO.refl _)
      | (with_reducible exact LeO.none _)
      | (with_reducible refine LeO.ite ?_ ?_)
      | (with_reducible refine LeO.bind ?_ (fun _ => ?_))
      | exact ih0 _ _ _ _ _ _ _ _ _ _ _ _ _ _ _ _ _
      | exact LeO.none _
      | refine LeO.ite ?_ ?_
      | refine LeO.bind ?_ (fun _ => ?_)
set_option maxHeartbeats 8000000 in
set_option maxRecDepth 100000 in
theorem rampartref16_Last.calls (k : Nat) (a0_0 : Int) (a0_1 : Int) (a0_2 : Int) (a0_3 : Int) (a0_4 : Int) (a0_5 : Int) (a0_6 : Int) (a0_7 : Int) (a0_8 : Int) (a0_9 : Bool) (A0_10 : Option Addr) (c0_10 : Nat) (l0_10 : List (S44)) (a0_11 : Bool) (a0_12 : Int) (a0_13 : Int) (a0_14 : ByteArray) (r : Int) (w : World) (hr0_10 : Kd.C k44 w A0_10 l0_10.length l0_10) (hc0_10 : l0_10.length ≤ c0_10) (h : rampartref16_Last.f k a0_0 a0_1 a0_2 a0_3 a0_4 a0_5 a0_6 a0_7 a0_8 a0_9 l0_10 a0_11 a0_12 a0_13 a0_14 = some r) :
    Calls Try.prog 42 #[.agg #[.int .i64 a0_0, .int .i64 a0_1, .int .u32 a0_2, .int .u32 a0_3, .int .i64 a0_4, .int .i64 a0_5, .int .i64 a0_6, .int .i64 a0_7, .int .i64 a0_8, .bool a0_9, .slice A0_10 l0_10.length c0_10, .bool a0_11, .int .u32 a0_12, .int .u32 a0_13, .string a0_14]] w fun e w' => e = .returned (.int .u32 r) ∧ Below w.heap.size w w' := by
  have hu29 := Try.underlying29
  have HR0_10 := Aside0.mk hr0_10
  have HC0_10 := Aside0.mk hc0_10
  clear hr0_10 hc0_10
  have HB := Aside0.mk (Below.refl w.heap.size w)
  have H : (rampartref16_Last.l0 k a0_3 0 a0_0 a0_1 a0_2 a0_3 a0_4 a0_5 a0_6 a0_7 a0_8 a0_9 l0_10 a0_11 a0_12 a0_13 a0_14) = some r := h
  clear h
  have H' := Aside0.mk H
  clear H
  go_enter Try.func42, Try.ntmps42
  go_wp2_with (first | ((with_reducible refine gate_dst (N := 1) rfl ?_); refine box_event ?hg (N := 1) ?hd (cs := #[.int .i64 a0_0, .int .i64 a0_1, .int .u32 a0_2, .int .u32 a0_3, .int .i64 a0_4, .int .i64 a0_5, .int .i64 a0_6, .int .i64 a0_7, .int .i64 a0_8, .bool a0_9, .slice A0_10 l0_10.length c0_10, .bool a0_11, .int .u32 a0_12, .int .u32 a0_13, .string a0_14]) (t := 29) ?hr ?_; (case hd => rfl); (case hg => rfl); (case hr => first | (go_simp; done) | (go_simp; rfl)); intro gb132 hg w2 hbox hb; have n0_ := Aside0.mk (below_step (by repeat (first | (with_reducible first | exact HB.out | apply below_alloc | apply pw_below_drewN | apply below_drew1) | exact HB.out)) hb); have n1_ := Aside0.mk (hbox); have n2_ := Aside0.mk ((by rw [hg]; exact (below_size (by repeat (first | (with_reducible first | exact HB.out | apply below_alloc | apply pw_below_drewN | apply below_drew1) | exact HB.out))) : w.heap.size ≤ gb132)); have n3_ := Aside0.mk ((by rw [hg]; exact (below_size (by repeat (first | (with_reducible first | exact HB.out | apply below_alloc | apply pw_below_drewN | apply below_drew1) | exact HB.out))) : w.heap.size ≤ gb132)); clear HB; have HB := n0_; have BK132 := n1_; have GW132 := n2_; have GE132 := n3_; clear n0_ n1_ n2_ n3_; clear hb hbox hg; have hcz3_0 : w2.cell? ⟨gb132, 0, none⟩ = some (.int .i64 a0_0) := (blk_cell BK132.out 0).trans rfl; have hcz3_1 : w2.cell? ⟨gb132, 1, none⟩ = some (.int .i64 a0_1) := (blk_cell BK132.out 1).trans rfl; have hcz3_2 : w2.cell? ⟨gb132, 2, none⟩ = some (.int .u32 a0_2) := (blk_cell BK132.out 2).trans rfl; have hcz3_3 : w2.cell? ⟨gb132, 3, none⟩ = some (.int .u32 a0_3) := (blk_cell BK132.out 3).trans rfl; have hcz3_4 : w2.cell? ⟨gb132, 4, none⟩ = some (.int .i64 a0_4) := (blk_cell BK132.out 4).trans rfl; have hcz3_5 : w2.cell? ⟨gb132, 5, none⟩ = some (.int .i64 a0_5) := (blk_cell BK132.out 5).trans rfl; have hcz3_6 : w2.cell? ⟨gb132, 6, none⟩ = some (.int .i64 a0_6) := (blk_cell BK132.out 6).trans rfl; have hcz3_7 : w2.cell? ⟨gb132, 7, none⟩ = some (.int .i64 a0_7) := (blk_cell BK132.out 7).trans rfl; have hcz3_8 : w2.cell? ⟨gb132, 8, none⟩ = some (.int .i64 a0_8) := (blk_cell BK132.out 8).trans rfl; have hcz3_9 : w2.cell? ⟨gb132, 9, none⟩ = some (.bool a0_9) := (blk_cell BK132.out 9).trans rfl; have hcz3_10 : w2.cell? ⟨gb132, 10, none⟩ = some (.slice A0_10 l0_10.length c0_10) := (blk_cell BK132.out 10).trans rfl; have hcz3_11 : w2.cell? ⟨gb132, 11, none⟩ = some (.bool a0_11) := (blk_cell BK132.out 11).trans rfl; have hcz3_12 : w2.cell? ⟨gb132, 12, none⟩ = some (.int .u32 a0_12) := (blk_cell BK132.out 12).trans rfl; have hcz3_13 : w2.cell? ⟨gb132, 13, none⟩ = some (.int .u32 a0_13) := (blk_cell BK132.out 13).trans rfl; have hcz3_14 : w2.cell? ⟨gb132, 14, none⟩ = some (.string a0_14) := (blk_cell BK132.out 14).trans rfl; have hfz3_0 := blk_frozen BK132.out 0; have hfz3_1 := blk_frozen BK132.out 1; have hfz3_2 := blk_frozen BK132.out 2; have hfz3_3 := blk_frozen BK132.out 3; have hfz3_4 := blk_frozen BK132.out 4; have hfz3_5 := blk_frozen BK132.out 5; have hfz3_6 := blk_frozen BK132.out 6; have hfz3_7 := blk_frozen BK132.out 7; have hfz3_8 := blk_frozen BK132.out 8; have hfz3_9 := blk_frozen BK132.out 9; have hfz3_10 := blk_frozen BK132.out 10; have hfz3_11 := blk_frozen BK132.out 11; have hfz3_12 := blk_frozen BK132.out 12; have hfz3_13 := blk_frozen BK132.out 13; have hfz3_14 := blk_frozen BK132.out 14))
  go_loopg [3, 4] k (fun kq v3 v4 w' => ∃ (x3_1 : Int) (x4_1 : Int), v3 = .int .u32 x3_1 ∧ v4 = .int .i64 x4_1 ∧ Aside0 (rampartref16_Last.l0 kq x3_1 x4_1 a0_0 a0_1 a0_2 a0_3 a0_4 a0_5 a0_6 a0_7 a0_8 a0_9 l0_10 a0_11 a0_12 a0_13 a0_14 = some r) ∧ Aside0 (kq ≤ k) ∧ Aside0 (w'.heap[gb132]? = some (.cells #[.int .i64 a0_0, .int .i64 a0_1, .int .u32 a0_2, .int .u32 a0_3, .int .i64 a0_4, .int .i64 a0_5, .int .i64 a0_6, .int .i64 a0_7, .int .i64 a0_8, .bool a0_9, (.slice A0_10 l0_10.length c0_10), .bool a0_11, .int .u32 a0_12, .int .u32 a0_13, .string a0_14] 29 (0, 0))) ∧ Aside0 (Below w.heap.size w w'))
  case atStart => exact ⟨(a0_3), (0), (by first | rfl | (simp; done) | (simp [*]; done)), (by first | rfl | (simp; done) | (simp [*]; done)), H', ⟨Nat.le_refl _⟩, ⟨by (with_reducible repeat (first | refine blk_drewN ?_ _ | refine blk_drew ?_ | refine blk_alloc ?_ _)); exact BK132.out⟩, ⟨by repeat (first | (with_reducible first | exact HB.out | apply below_alloc | apply pw_below_drewN | apply below_drew1 | refine below_set ?_ GE132.out) | exact HB.out)⟩⟩
  case round =>
    clear H'
    try clear p2
    try clear hcz3_0
    try clear hcz3_1
    try clear hcz3_10
    try clear hcz3_11
    try clear hcz3_12
    try clear hcz3_13
    try clear hcz3_14
    try clear hcz3_2
    try clear hcz3_3
    try clear hcz3_4
    try clear hcz3_5
    try clear hcz3_6
    try clear hcz3_7
    try clear hcz3_8
    try clear hcz3_9
    try clear hfz3_0
    try clear hfz3_1
    try clear hfz3_10
    try clear hfz3_11
    try clear hfz3_12
    try clear hfz3_13
    try clear hfz3_14
    try clear hfz3_2
    try clear hfz3_3
    try clear hfz3_4
    try clear hfz3_5
    try clear hfz3_6
    try clear hfz3_7
    try clear hfz3_8
    try clear hfz3_9
    obtain ⟨x3_1, x4_1, rfl, rfl, HA, HK1, BK132, HB⟩ := hrel
    cases gk with
    | zero => exact absurd HA.out (by simp [rampartref16_Last.l0])
    | succ k1 =>
      have H := HA.out
      clear HA
      simp only [rampartref16_Last.l0] at H
      by_cases c4 : x4_1 < (l0_10.length : Int)
      · rw [if_pos c4] at H
        have c4b0 : decide (x4_1 < (l0_10.length : Int)) = true := decide_eq_true c4
        clear c4
        by_cases c5 : 0 ≤ x4_1
        · rw [if_pos c5] at H
          have c5b0 : decide (0 ≤ x4_1) = true := decide_eq_true c5
          clear c5
          replace H := Option.bind_eq_some_iff.mp H
          obtain ⟨t134, A60, H⟩ := H
          replace H : (rampartref16_Last.l0 k1 t134 (wrap64 (x4_1 + 1)) a0_0 a0_1 a0_2 a0_3 a0_4 a0_5 a0_6 a0_7 a0_8 a0_9 l0_10 a0_11 a0_12 a0_13 a0_14) = some r := H
          have A6 := Aside0.mk A60
          clear A60
          have H' := Aside0.mk H
          clear H
          have hcz7_0 : wr.cell? ⟨gb132, 0, none⟩ = some (.int .i64 a0_0) := (blk_cell BK132.out 0).trans rfl
          have hcz7_1 : wr.cell? ⟨gb132, 1, none⟩ = some (.int .i64 a0_1) := (blk_cell BK132.out 1).trans rfl
          have hcz7_2 : wr.cell? ⟨gb132, 2, none⟩ = some (.int .u32 a0_2) := (blk_cell BK132.out 2).trans rfl
          have hcz7_3 : wr.cell? ⟨gb132, 3, none⟩ = some (.int .u32 a0_3) := (blk_cell BK132.out 3).trans rfl
          have hcz7_4 : wr.cell? ⟨gb132, 4, none⟩ = some (.int .i64 a0_4) := (blk_cell BK132.out 4).trans rfl
          have hcz7_5 : wr.cell? ⟨gb132, 5, none⟩ = some (.int .i64 a0_5) := (blk_cell BK132.out 5).trans rfl
          have hcz7_6 : wr.cell? ⟨gb132, 6, none⟩ = some (.int .i64 a0_6) := (blk_cell BK132.out 6).trans rfl
          have hcz7_7 : wr.cell? ⟨gb132, 7, none⟩ = some (.int .i64 a0_7) := (blk_cell BK132.out 7).trans rfl
          have hcz7_8 : wr.cell? ⟨gb132, 8, none⟩ = some (.int .i64 a0_8) := (blk_cell BK132.out 8).trans rfl
          have hcz7_9 : wr.cell? ⟨gb132, 9, none⟩ = some (.bool a0_9) := (blk_cell BK132.out 9).trans rfl
          have hcz7_10 : wr.cell? ⟨gb132, 10, none⟩ = some (.slice A0_10 l0_10.length c0_10) := (blk_cell BK132.out 10).trans rfl
          have hcz7_11 : wr.cell? ⟨gb132, 11, none⟩ = some (.bool a0_11) := (blk_cell BK132.out 11).trans rfl
          have hcz7_12 : wr.cell? ⟨gb132, 12, none⟩ = some (.int .u32 a0_12) := (blk_cell BK132.out 12).trans rfl
          have hcz7_13 : wr.cell? ⟨gb132, 13, none⟩ = some (.int .u32 a0_13) := (blk_cell BK132.out 13).trans rfl
          have hcz7_14 : wr.cell? ⟨gb132, 14, none⟩ = some (.string a0_14) := (blk_cell BK132.out 14).trans rfl
          have hfz7_0 := blk_frozen BK132.out 0
          have hfz7_1 := blk_frozen BK132.out 1
          have hfz7_2 := blk_frozen BK132.out 2
          have hfz7_3 := blk_frozen BK132.out 3
          have hfz7_4 := blk_frozen BK132.out 4
          have hfz7_5 := blk_frozen BK132.out 5
          have hfz7_6 := blk_frozen BK132.out 6
          have hfz7_7 := blk_frozen BK132.out 7
          have hfz7_8 := blk_frozen BK132.out 8
          have hfz7_9 := blk_frozen BK132.out 9
          have hfz7_10 := blk_frozen BK132.out 10
          have hfz7_11 := blk_frozen BK132.out 11
          have hfz7_12 := blk_frozen BK132.out 12
          have hfz7_13 := blk_frozen BK132.out 13
          have hfz7_14 := blk_frozen BK132.out 14
          have p133 : 0 ≤ (x4_1 : Int) := of_decide_eq_true (by first | (with_reducible assumption) | assumption)
          have q133 : x4_1 < (l0_10.length : Int) := of_decide_eq_true (by first | (with_reducible assumption) | assumption)
          obtain ⟨ad133, e133, hx133_0, hx133_1⟩ := at_T44 HR0_10.out x4_1 p133 q133
          cases e133
          replace hx133_0 := (HB.out.cell (World.block_lt_of_cell? w _ hx133_0)).trans hx133_0
          replace hx133_1 := (HB.out.cell (World.block_lt_of_cell? w _ hx133_1)).trans hx133_1
          replace p133 := eq_true p133
          replace q133 := eq_true q133
          go_wp2_with (first | ((with_reducible refine gate_callee (f := 51) rfl ?_); refine goesL_ (some 23) rfl rfl Try.func51 (by kernel_rfl) rfl #[.int .u32 x3_1, .int .u32 ((rd_T44 l0_10 x4_1).f1)] rfl (by (try simp only [List.map_toArray, List.map_cons, List.map_nil]); first | done | rfl | (simp only [List.length_drop, List.length_take]; rfl)) ?_; (with_reducible refine (rampartref03_Later.calls x3_1 ((rd_T44 l0_10 x4_1).f1) t134 _ A6.out).mono ?_); rintro e w' ⟨rfl, ⟨nd, rfl⟩⟩; refine ⟨_, rfl, ?_⟩))
          go_roundg k1
          case measure => have := HK1.out; omega
          case rel => exact ⟨(t134), (wrap64 (x4_1 + 1)), (by first | rfl | (simp; done) | (simp [*]; done)), (by first | rfl | (simp; done) | (simp [*]; done)), H', ⟨by have := HK1.out; omega⟩, ⟨by (with_reducible repeat (first | refine blk_drewN ?_ _ | refine blk_drew ?_ | refine blk_alloc ?_ _)); exact BK132.out⟩, ⟨by repeat (first | (with_reducible first | exact HB.out | apply below_alloc | apply pw_below_drewN | apply below_drew1 | refine below_set ?_ GE132.out) | exact HB.out)⟩⟩
        · rw [if_neg c5] at H
          exact absurd H (by simp)
      · rw [if_neg c4] at H
        have c4b0 : decide (x4_1 < (l0_10.length : Int)) = false := decide_eq_false c4
        clear c4
        obtain rfl := Option.some.inj H
        have hcz8_0 : wr.cell? ⟨gb132, 0, none⟩ = some (.int .i64 a0_0) := (blk_cell BK132.out 0).trans rfl
        have hcz8_1 : wr.cell? ⟨gb132, 1, none⟩ = some (.int .i64 a0_1) := (blk_cell BK132.out 1).trans rfl
        have hcz8_2 : wr.cell? ⟨gb132, 2, none⟩ = some (.int .u32 a0_2) := (blk_cell BK132.out 2).trans rfl
        have hcz8_3 : wr.cell? ⟨gb132, 3, none⟩ = some (.int .u32 a0_3) := (blk_cell BK132.out 3).trans rfl
        have hcz8_4 : wr.cell? ⟨gb132, 4, none⟩ = some (.int .i64 a0_4) := (blk_cell BK132.out 4).trans rfl
        have hcz8_5 : wr.cell? ⟨gb132, 5, none⟩ = some (.int .i64 a0_5) := (blk_cell BK132.out 5).trans rfl
        have hcz8_6 : wr.cell? ⟨gb132, 6, none⟩ = some (.int .i64 a0_6) := (blk_cell BK132.out 6).trans rfl
        have hcz8_7 : wr.cell? ⟨gb132, 7, none⟩ = some (.int .i64 a0_7) := (blk_cell BK132.out 7).trans rfl
        have hcz8_8 : wr.cell? ⟨gb132, 8, none⟩ = some (.int .i64 a0_8) := (blk_cell BK132.out 8).trans rfl
        have hcz8_9 : wr.cell? ⟨gb132, 9, none⟩ = some (.bool a0_9) := (blk_cell BK132.out 9).trans rfl
        have hcz8_10 : wr.cell? ⟨gb132, 10, none⟩ = some (.slice A0_10 l0_10.length c0_10) := (blk_cell BK132.out 10).trans rfl
        have hcz8_11 : wr.cell? ⟨gb132, 11, none⟩ = some (.bool a0_11) := (blk_cell BK132.out 11).trans rfl
        have hcz8_12 : wr.cell? ⟨gb132, 12, none⟩ = some (.int .u32 a0_12) := (blk_cell BK132.out 12).trans rfl
        have hcz8_13 : wr.cell? ⟨gb132, 13, none⟩ = some (.int .u32 a0_13) := (blk_cell BK132.out 13).trans rfl
        have hcz8_14 : wr.cell? ⟨gb132, 14, none⟩ = some (.string a0_14) := (blk_cell BK132.out 14).trans rfl
        have hfz8_0 := blk_frozen BK132.out 0
        have hfz8_1 := blk_frozen BK132.out 1
        have hfz8_2 := blk_frozen BK132.out 2
        have hfz8_3 := blk_frozen BK132.out 3
        have hfz8_4 := blk_frozen BK132.out 4
        have hfz8_5 := blk_frozen BK132.out 5
        have hfz8_6 := blk_frozen BK132.out 6
        have hfz8_7 := blk_frozen BK132.out 7
        have hfz8_8 := blk_frozen BK132.out 8
        have hfz8_9 := blk_frozen BK132.out 9
        have hfz8_10 := blk_frozen BK132.out 10
        have hfz8_11 := blk_frozen BK132.out 11
        have hfz8_12 := blk_frozen BK132.out 12
        have hfz8_13 := blk_frozen BK132.out 13
        have hfz8_14 := blk_frozen BK132.out 14
        go_wp2
        go_ret
        exact ⟨by first | rfl | (simp [errW_none, errW_some] <;> rfl) | (simp [*, errW_none, errW_some] <;> rfl), by repeat (first | (with_reducible first | exact HB.out | apply below_alloc | apply pw_below_drewN | apply below_drew1 | refine below_set ?_ GE132.out) | exact HB.out)⟩

/-! ### rampartref16_Shift: function 52 -/
def rampartref16_Shift.l0 : Nat → Int → Int → Int → Option (Int)
  | 0, _, _, _ => none
  | k + 1, x1, x7, x8 => if x8 < x1 then (if x8 < 14 then (rampartref16_Shift.l0 k x1 (wrap64 (2 * x7)) (wrap64 (x8 + 1))) else (some x7)) else (some x7)
def rampartref16_Shift.f (k : Nat) (a0 : Int) (a1 : Int) (a2 : Bool) : Option (Int) := if a2 = true then (some (mx 0 (mn a0 65535))) else (rampartref16_Shift.l0 k a1 (mx 0 (mn a0 65535)) 0)
theorem rampartref16_Shift.mono_l : ∀ k, (∀ y0 y1 y2, LeO (rampartref16_Shift.l0 k y0 y1 y2) (rampartref16_Shift.l0 (k + 1) y0 y1 y2))
  | 0 => fun _ _ _ r h => by simp [rampartref16_Shift.l0] at h
  | k + 1 => by
    have ih0 := rampartref16_Shift.mono_l k
    · intro y0 y1 y2
      unfold rampartref16_Shift.l0
      repeat' first
      | (with_reducible exact ih0 _ _ _)
      | (with_reducible exact LeO.refl _)
      | (with_reducible exact LeO.none _)
      | (with_reducible refine LeO.ite ?_ ?_)
      | (with_reducible refine LeO.bind ?_ (fun _ => ?_))
      | exact ih0 _ _ _
      | exact LeO.none _
      | refine LeO.ite ?_ ?_
      | refine LeO.bind ?_ (fun _ => ?_)
theorem rampartref16_Shift.mono : ∀ a0 a1 a2 k, LeO (rampartref16_Shift.f k a0 a1 a2) (rampartref16_Shift.f (k + 1) a0 a1 a2) := by
  intro a0 a1 a2 k
  have ih0 := rampartref16_Shift.mono_l k
  unfold rampartref16_Shift.f
  repeat' first
      | (with_reducible exact ih0 _ _ _)
      | (with_reducible exact LeO.refl _)
      | (with_reducible exact LeO.none _)
      | (with_reducible refine LeO.ite ?_ ?_)
      | (with_reducible refine LeO.bind ?_ (fun _ => ?_))
      | exact ih0 _ _ _
      | exact LeO.none _
      | refine LeO.ite ?_ ?_
      | refine LeO.bind ?_ (fun _ => ?_)
set_option maxHeartbeats 8000000 in
set_option maxRecDepth 100000 in
theorem rampartref16_Shift.calls (k : Nat) (a0 : Int) (a1 : Int) (a2 : Bool) (r : Int) (w : World) (h : rampartref16_Shift.f k a0 a1 a2 = some r) :
    Calls Try.prog 52 #[.int .i64 a0, .int .i64 a1, .bool a2] w fun e w' => e = .returned (.int .i64 r) ∧ Below w.heap.size w w' := by
  have HB := Aside0.mk (Below.refl w.heap.size w)
  have H : (if a2 = true then (some (mx 0 (mn a0 65535))) else (rampartref16_Shift.l0 k a1 (mx 0 (mn a0 65535)) 0)) = some r := h
  clear h
  obtain ⟨ji4, hji4⟩ : ∃ j_ : Int, (mn a0 65535) = j_ := ⟨_, rfl⟩
  replace H : (if a2 = true then (some (mx 0 (ji4))) else (rampartref16_Shift.l0 k a1 (mx 0 (ji4)) 0)) = some r := by first | (rw [hji4] at H; exact H) | (simp only [hji4] at H ⊢; exact H)
  (try (have hji4h : ji4 ≤ 65535 := by (rw [← hji4]; unfold mn; (repeat' split) <;> omega)))
  (try (have hji4g : ji4 ≤ 64 := by omega))
  have hji4_ : (if 65535 < a0 then 65535 else a0) = ji4 := hji4
  obtain ⟨ji5, hji5⟩ : ∃ j_ : Int, (mx 0 (ji4)) = j_ := ⟨_, rfl⟩
  replace H : (if a2 = true then (some ji5) else (rampartref16_Shift.l0 k a1 ji5 0)) = some r := by first | (rw [hji5] at H; exact H) | (simp only [hji5] at H ⊢; exact H)
  have hji5_ : (if 0 < (ji4) then (ji4) else 0) = ji5 := hji5
  by_cases c6 : a2 = true
  · subst c6
    have H1 : (some ji5) = some r := by rw [if_pos rfl] at H; exact H
    clear H
    have H := H1
    clear H1
    obtain rfl := Option.some.inj H
    go_enter Try.func52, Try.ntmps52
    go_wp2
    go_ret
    exact ⟨by first | rfl | (simp [errW_none, errW_some] <;> rfl) | (simp only [← hji4, ← hji5]; first | rfl | (simp [errW_none, errW_some] <;> rfl)) | (simp [*, errW_none, errW_some] <;> rfl), by repeat (first | (with_reducible first | exact HB.out | apply below_alloc | apply pw_below_drewN | apply below_drew1) | exact HB.out)⟩
  · replace c6 := Bool.eq_false_iff.mpr c6
    subst c6
    have H1 : (rampartref16_Shift.l0 k a1 ji5 0) = some r := by rw [if_neg (show ¬ (false = true) by decide)] at H; exact H
    clear H
    have H := H1
    clear H1
    have H' := Aside0.mk H
    clear H
    go_enter Try.func52, Try.ntmps52
    go_wp2
    go_loopg [7, 8] k (fun kq v7 v8 w' => ∃ (x7_1 : Int) (x8_1 : Int), v7 = .int .i64 x7_1 ∧ v8 = .int .i64 x8_1 ∧ Aside0 (rampartref16_Shift.l0 kq a1 x7_1 x8_1 = some r) ∧ Aside0 (kq ≤ k) ∧ Aside0 (Below w.heap.size w w'))
    case atStart => exact ⟨(ji5), (0), (by first | rfl | (simp; done) | (simp only [← hji5] <;> (first | rfl | simp)) | (simp [*]; done)), (by first | rfl | (simp; done) | (simp [*]; done)), H', ⟨Nat.le_refl _⟩, ⟨by repeat (first | (with_reducible first | exact HB.out | apply below_alloc | apply pw_below_drewN | apply below_drew1) | exact HB.out)⟩⟩
    case round =>
      clear H'
      try clear p2
      try clear c5
      try clear c6
      obtain ⟨x7_1, x8_1, rfl, rfl, HA, HK1, HB⟩ := hrel
      cases gk with
      | zero => exact absurd HA.out (by simp [rampartref16_Shift.l0])
      | succ k1 =>
        have H := HA.out
        clear HA
        simp only [rampartref16_Shift.l0] at H
        by_cases c7 : x8_1 < a1
        · rw [if_pos c7] at H
          have c7b0 : decide (x8_1 < a1) = true := decide_eq_true c7
          clear c7
          by_cases c8 : x8_1 < 14
          · rw [if_pos c8] at H
            have c8b0 : decide (x8_1 < 14) = true := decide_eq_true c8
            clear c8
            have H' := Aside0.mk H
            clear H
            go_wp2
            go_roundg k1
            case measure => have := HK1.out; omega
            case rel => exact ⟨(wrap64 (2 * x7_1)), (wrap64 (x8_1 + 1)), (by first | rfl | (simp; done) | (simp [*]; done)), (by first | rfl | (simp; done) | (simp [*]; done)), H', ⟨by have := HK1.out; omega⟩, ⟨by repeat (first | (with_reducible first | exact HB.out | apply below_alloc | apply pw_below_drewN | apply below_drew1) | exact HB.out)⟩⟩
          · rw [if_neg c8] at H
            have c8b0 : decide (x8_1 < 14) = false := decide_eq_false c8
            clear c8
            obtain rfl := Option.some.inj H
            go_wp2
            go_ret
            exact ⟨by first | rfl | (simp [errW_none, errW_some] <;> rfl) | (simp only [← hji4, ← hji5]; first | rfl | (simp [errW_none, errW_some] <;> rfl)) | (simp [*, errW_none, errW_some] <;> rfl), by repeat (first | (with_reducible first | exact HB.out | apply below_alloc | apply pw_below_drewN | apply below_drew1) | exact HB.out)⟩
        · rw [if_neg c7] at H
          have c7b0 : decide (x8_1 < a1) = false := decide_eq_false c7
          clear c7
          obtain rfl := Option.some.inj H
          go_wp2
          go_ret
          exact ⟨by first | rfl | (simp [errW_none, errW_some] <;> rfl) | (simp only [← hji4, ← hji5]; first | rfl | (simp [errW_none, errW_some] <;> rfl)) | (simp [*, errW_none, errW_some] <;> rfl), by repeat (first | (with_reducible first | exact HB.out | apply below_alloc | apply pw_below_drewN | apply below_drew1) | exact HB.out)⟩

end Go.Proofs.Ytfgpcaadgfgkcaa.PAll
