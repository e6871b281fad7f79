-- Written by a program of this work (wip/mkprint.py, wip/myprint.sh) out of the translation; not trusted: Lean checks it.
import Derived.Test.YtbmekfammbfadaaPAllx0
import Derived.Test.YtbmekfammbfadaaPAllx1
import Derived.Test.YtbmekfammbfadaaPAllx5
import Derived.Test.YtbmekfammbfadaaPAllx7
import Derived.Test.YtbmekfammbfadaaPAllx8
namespace Go.Proofs.Ytbmekfammbfadaa.PAll
open Go.RowKit Go.Proofs.YtbmekfammbfadaaW.PrintWords Go.Proofs.YtbmekfammbfadaaW.PrintLast Go.Proofs.YtbmekfammbfadaaW.PrintMore
attribute [local go_sem] max2_int min2_int max_two min_two max_three min_three max_four min_four   -- for this text's walks alone
set_option linter.unusedVariables false
set_option linter.unusedSimpArgs false

/-! ### rampartlaw16_EdgeLast: function 12 -/
mutual
def rampartlaw16_EdgeLast.l0 : Nat → Int → Bool → Bool → Int → Int → Int → Int → Int → Int → Int → Int → Int → Int → Bool → List (S49) → Bool → Int → Int → ByteArray → Option (Bool)
  | 0, _, _, _, _, _, _, _, _, _, _, _, _, _, _, _, _, _, _, _ => none
  | k + 1, x3, x4, x5, x6, x238000, x238001, x238002, x238003, x238004, x238005, x238006, x238007, x238008, x238009, x238010, x238011, x238012, x238013, x238014 => if x6 < (x238010.length : Int) then (if x4 = true then (if 0 ≤ x6 then ((rampartref03_Gap.f x238003 ((rd_T49 x238010 x6).f1)).bind fun t242 => (if x5 = true then (if t242 > (-536870912) then (rampartlaw16_EdgeLast.l0 k x3 true (decide (t242 < 536870912)) (wrap64 (x6 + 1)) x238000 x238001 x238002 x238003 x238004 x238005 x238006 x238007 x238008 x238009 x238010 x238011 x238012 x238013 x238014) else (rampartlaw16_EdgeLast.l0 k x3 true false (wrap64 (x6 + 1)) x238000 x238001 x238002 x238003 x238004 x238005 x238006 x238007 x238008 x238009 x238010 x238011 x238012 x238013 x238014)) else (rampartlaw16_EdgeLast.l0 k x3 true false (wrap64 (x6 + 1)) x238000 x238001 x238002 x238003 x238004 x238005 x238006 x238007 x238008 x238009 x238010 x238011 x238012 x238013 x238014))) else (none)) else (if 0 ≤ x6 then ((rampartref03_Gap.f x238003 ((rd_T49 x238010 x6).f1)).bind fun t245 => (if x5 = true then (if t245 > (-536870912) then (rampartlaw16_EdgeLast.l0 k x3 (x3 == ((rd_T49 x238010 x6).f1)) (decide (t245 < 536870912)) (wrap64 (x6 + 1)) x238000 x238001 x238002 x238003 x238004 x238005 x238006 x238007 x238008 x238009 x238010 x238011 x238012 x238013 x238014) else (rampartlaw16_EdgeLast.l0 k x3 (x3 == ((rd_T49 x238010 x6).f1)) false (wrap64 (x6 + 1)) x238000 x238001 x238002 x238003 x238004 x238005 x238006 x238007 x238008 x238009 x238010 x238011 x238012 x238013 x238014)) else (rampartlaw16_EdgeLast.l0 k x3 (x3 == ((rd_T49 x238010 x6).f1)) false (wrap64 (x6 + 1)) x238000 x238001 x238002 x238003 x238004 x238005 x238006 x238007 x238008 x238009 x238010 x238011 x238012 x238013 x238014))) else (none))) else (rampartlaw16_EdgeLast.l1 k x3 x4 x5 0 x238000 x238001 x238002 x238003 x238004 x238005 x238006 x238007 x238008 x238009 x238010 x238011 x238012 x238013 x238014)
def rampartlaw16_EdgeLast.l1 : Nat → Int → Bool → Bool → Int → Int → Int → Int → Int → Int → Int → Int → Int → Int → Bool → List (S49) → Bool → Int → Int → ByteArray → Option (Bool)
  | 0, _, _, _, _, _, _, _, _, _, _, _, _, _, _, _, _, _, _, _ => none
  | k + 1, x3, x4, x5, x8, x238000, x238001, x238002, x238003, x238004, x238005, x238006, x238007, x238008, x238009, x238010, x238011, x238012, x238013, x238014 => if x8 < (x238010.length : Int) then (rampartlaw16_EdgeLast.j2 k x3 x4 x5 x8 x5 x238000 x238001 x238002 x238003 x238004 x238005 x238006 x238007 x238008 x238009 x238010 x238011 x238012 x238013 x238014) else (rampartlaw16_EdgeLast.j2 k x3 x4 x5 x8 false x238000 x238001 x238002 x238003 x238004 x238005 x238006 x238007 x238008 x238009 x238010 x238011 x238012 x238013 x238014)
def rampartlaw16_EdgeLast.j2 : Nat → Int → Bool → Bool → Int → Bool → Int → Int → Int → Int → Int → Int → Int → Int → Int → Bool → List (S49) → Bool → Int → Int → ByteArray → Option (Bool)
  | 0, _, _, _, _, _, _, _, _, _, _, _, _, _, _, _, _, _, _, _, _ => none
  | k + 1, x3, x4, x5, x8, x66, x238000, x238001, x238002, x238003, x238004, x238005, x238006, x238007, x238008, x238009, x238010, x238011, x238012, x238013, x238014 => if x66 = true then (if 0 ≤ x8 then (if x8 < (x238010.length : Int) then ((rampartref03_Before.f x3 ((rd_T49 x238010 x8).f1)).bind fun t247 => (if t247 = true then (some false) else (rampartlaw16_EdgeLast.l1 k x3 x4 x5 (wrap64 (x8 + 1)) x238000 x238001 x238002 x238003 x238004 x238005 x238006 x238007 x238008 x238009 x238010 x238011 x238012 x238013 x238014))) else (none)) else (none)) else (if x4 = true then (if x5 = true then ((rampartref03_Upto.f x238003 x3).bind fun t248 => (if t248 = true then ((rampartlaw16_known.f).bind fun t249 => (some t249)) else (some false))) else ((rampartlaw16_known.f).bind fun t250 => (some t250))) else (some false))
end
def rampartlaw16_EdgeLast.f (k : Nat) (a0_0 : Int) (a0_1 : Int) (a0_2 : Int) (a0_3 : Int) (a0_4 : Int) (a0_5 : Int) (a0_6 : Int) (a0_7 : Int) (a0_8 : Int) (a0_9 : Bool) (l0_10 : List (S49)) (a0_11 : Bool) (a0_12 : Int) (a0_13 : Int) (a0_14 : ByteArray) : Option (Bool) := (rampartlaw16_light.f a0_0 a0_1 a0_2 a0_3 a0_4 a0_5 a0_6 a0_7 a0_8 a0_9 l0_10 a0_11 a0_12 a0_13 a0_14).bind fun t238 => (if t238 = true then ((edge_Last.f a0_0 a0_1 a0_2 a0_3 a0_4 a0_5 a0_6 a0_7 a0_8 a0_9 l0_10 a0_11 a0_12 a0_13 a0_14).bind fun t240 => (rampartlaw16_EdgeLast.l0 k t240 (t240 == a0_3) true 0 a0_0 a0_1 a0_2 a0_3 a0_4 a0_5 a0_6 a0_7 a0_8 a0_9 l0_10 a0_11 a0_12 a0_13 a0_14)) else ((rampartlaw16_known.f).bind fun t239 => (some t239)))
theorem rampartlaw16_EdgeLast.mono_l : ∀ k, (∀ y0 y1 y2 y3 y4 y5 y6 y7 y8 y9 y10 y11 y12 y13 y14 y15 y16 y17 y18, LeO (rampartlaw16_EdgeLast.l0 k y0 y1 y2 y3 y4 y5 y6 y7 y8 y9 y10 y11 y12 y13 y14 y15 y16 y17 y18) (rampartlaw16_EdgeLast.l0 (k + 1) y0 y1 y2 y3 y4 y5 y6 y7 y8 y9 y10 y11 y12 y13 y14 y15 y16 y17 y18)) ∧ (∀ y0 y1 y2 y3 y4 y5 y6 y7 y8 y9 y10 y11 y12 y13 y14 y15 y16 y17 y18, LeO (rampartlaw16_EdgeLast.l1 k y0 y1 y2 y3 y4 y5 y6 y7 y8 y9 y10 y11 y12 y13 y14 y15 y16 y17 y18) (rampartlaw16_EdgeLast.l1 (k + 1) y0 y1 y2 y3 y4 y5 y6 y7 y8 y9 y10 y11 y12 y13 y14 y15 y16 y17 y18)) ∧ (∀ y0 y1 y2 y3 y4 y5 y6 y7 y8 y9 y10 y11 y12 y13 y14 y15 y16 y17 y18 y19, LeO (rampartlaw16_EdgeLast.j2 k y0 y1 y2 y3 y4 y5 y6 y7 y8 y9 y10 y11 y12 y13 y14 y15 y16 y17 y18 y19) (rampartlaw16_EdgeLast.j2 (k + 1) y0 y1 y2 y3 y4 y5 y6 y7 y8 y9 y10 y11 y12 y13 y14 y15 y16 y17 y18 y19))
  | 0 => ⟨fun _ _ _ _ _ _ _ _ _ _ _ _ _ _ _ _ _ _ _ r h => by simp [rampartlaw16_EdgeLast.l0] at h, fun _ _ _ _ _ _ _ _ _ _ _ _ _ _ _ _ _ _ _ r h => by simp [rampartlaw16_EdgeLast.l1] at h, fun _ _ _ _ _ _ _ _ _ _ _ _ _ _ _ _ _ _ _ _ r h => by simp [rampartlaw16_EdgeLast.j2] at h⟩
  | k + 1 => by
    obtain ⟨ih0, ih1, ih2⟩ := rampartlaw16_EdgeLast.mono_l k
    refine ⟨?_, ?_, ?_⟩
    · intro y0 y1 y2 y3 y4 y5 y6 y7 y8 y9 y10 y11 y12 y13 y14 y15 y16 y17 y18
      unfold rampartlaw16_EdgeLast.l0
      repeat' first
      | (with_reducible exact ih0 _ _ _ _ _ _ _ _ _ _ _ _ _ _ _ _ _ _ _)
      | (with_reducible exact ih1 _ _ _ _ _ _ _ _ _ _ _ _ _ _ _ _ _ _ _)
      | (with_reducible exact ih2 _ _ _ _ _ _ _ _ _ _ _ _ _ _ _ _ _ _ _ _)
      | (with_reducible exact LeO.refl _)
      | (with_reducible exact LeO.none _)
      | (with_reducible refine LeO.ite ?_ ?_)
      | (with_reducible refine LeO.bind ?_ (fun _ => ?_))
      | exact ih0 _ _ _ _ _ _ _ _ _ _ _ _ _ _ _ _ _ _ _
      | exact ih1 _ _ _ _ _ _ _ _ _ _ _ _ _ _ _ _ _ _ _
      | exact ih2 _ _ _ _ _ _ _ _ _ _ _ _ _ _ _ _ _ _ _ _
      | exact LeO.none _
      | refine LeO.ite ?_ ?_
      | refine LeO.bind ?_ (fun _ => ?_)
    · intro y0 y1 y2 y3 y4 y5 y6 y7 y8 y9 y10 y11 y12 y13 y14 y15 y16 y17 y18
      unfold rampartlaw16_EdgeLast.l1
      repeat' first
      | (with_reducible exact ih0 _ _ _ _ _ _ _ _ _ _ _ _ _ _ _ _ _ _ _)
      | (with_reducible exact ih1 _ _ _ _ _ _ _ _ _ _ _ _ _ _ _ _ _ _ _)
      | (with_reducible exact ih2 _ _ _ _ _ _ _ _ _ _ _ _ _ _ _ _ _ _ _ _)
      | (with_reducible exact LeO.refl _)
      | (with_reducible exact LeO.none _)
      | (with_reducible refine LeO.ite ?_ ?_)
      | (with_reducible refine LeO.bind ?_ (fun _ => ?_))
      | exact ih0 _ _ _ _ _ _ _ _ _ _ _ _ _ _ _ _ _ _ _
      | exact ih1 _ _ _ _ _ _ _ _ _ _ _ _ _ _ _ _ _ _ _
      | exact ih2 _ _ _ _ _ _ _ _ _ _ _ _ _ _ _ _ _ _ _ _
      | exact LeO.none _
      | refine LeO.ite ?_ ?_
      | refine LeO.bind ?_ (fun _ => ?_)
    · intro y0 y1 y2 y3 y4 y5 y6 y7 y8 y9 y10 y11 y12 y13 y14 y15 y16 y17 y18 y19
      unfold rampartlaw16_EdgeLast.j2
      repeat' first
      | (with_reducible exact ih0 _ _ _ _ _ _ _ _ _ _ _ _ _ _ _ _ _ _ _)
      | (with_reducible exact ih1 _ _ _ _ _ _ _ _ _ _ _ _ _ _ _ _ _ _ _)
      | (with_reducible exact ih2 _ _ _ _ _ _ _ _ _ _ _ _ _ _ _ _ _ _ _ _)
      | (with_reducible exact LeO.refl _)
      | (with_reducible exact LeO.none _)
      | (with_reducible refine LeO.ite ?_ ?_)
      | (with_reducible refine LeO.bind ?_ (fun _ => ?_))
      | exact ih0 _ _ _ _ _ _ _ _ _ _ _ _ _ _ _ _ _ _ _
      | exact ih1 _ _ _ _ _ _ _ _ _ _ _ _ _ _ _ _ _ _ _
      | exact ih2 _ _ _ _ _ _ _ _ _ _ _ _ _ _ _ _ _ _ _ _
      | exact LeO.none _
      | refine LeO.ite ?_ ?_
      | refine LeO.bind ?_ (fun _ => ?_)
theorem rampartlaw16_EdgeLast.mono : ∀ a0 a1 a2 a3 a4 a5 a6 a7 a8 a9 a10 a11 a12 a13 a14 k, LeO (rampartlaw16_EdgeLast.f k a0 a1 a2 a3 a4 a5 a6 a7 a8 a9 a10 a11 a12 a13 a14) (rampartlaw16_EdgeLast.f (k + 1) a0 a1 a2 a3 a4 a5 a6 a7 a8 a9 a10 a11 a12 a13 a14) := by
  intro a0 a1 a2 a3 a4 a5 a6 a7 a8 a9 a10 a11 a12 a13 a14 k
  obtain ⟨ih0, ih1, ih2⟩ := rampartlaw16_EdgeLast.mono_l k
  unfold rampartlaw16_EdgeLast.f
  repeat' first
      | (with_reducible exact ih0 _ _ _ _ _ _ _ _ _ _ _ _ _ _ _ _ _ _ _)
      | (with_reducible exact ih1 _ _ _ _ _ _ _ _ _ _ _ _ _ _ _ _ _ _ _)
      | (with_reducible exact ih2 _ _ _ _ _ _ _ _ _ _ _ _ _ _ _ _ _ _ _ _)
      | (with_reducible exact LeO.refl _)
      | (with_reducible exact LeO.none _)
      | (with_reducible refine LeO.ite ?_ ?_)
      | (with_reducible refine LeO.bind ?_ (fun _ => ?_))
      | exact ih0 _ _ _ _ _ _ _ _ _ _ _ _ _ _ _ _ _ _ _
      | exact ih1 _ _ _ _ _ _ _ _ _ _ _ _ _ _ _ _ _ _ _
      | exact ih2 _ _ _ _ _ _ _ _ _ _ _ _ _ _ _ _ _ _ _ _
      | exact LeO.none _
      | refine LeO.ite ?_ ?_
      | refine LeO.bind ?_ (fun _ => ?_)
set_option maxHeartbeats 8000000 in
set_option maxRecDepth 100000 in
theorem rampartlaw16_EdgeLast.calls (k : Nat) (a0_0 : Int) (a0_1 : Int) (a0_2 : Int) (a0_3 : Int) (a0_4 : Int) (a0_5 : Int) (a0_6 : Int) (a0_7 : Int) (a0_8 : Int) (a0_9 : Bool) (A0_10 : Option Addr) (c0_10 : Nat) (l0_10 : List (S49)) (a0_11 : Bool) (a0_12 : Int) (a0_13 : Int) (a0_14 : ByteArray) (w : World) (hr0_10 : Kd.C k49 w A0_10 l0_10.length l0_10) (hc0_10 : l0_10.length ≤ c0_10) (h : rampartlaw16_EdgeLast.f k a0_0 a0_1 a0_2 a0_3 a0_4 a0_5 a0_6 a0_7 a0_8 a0_9 l0_10 a0_11 a0_12 a0_13 a0_14 = some true) :
    Calls Try.prog 12 #[.agg #[.int .i64 a0_0, .int .i64 a0_1, .int .u32 a0_2, .int .u32 a0_3, .int .i64 a0_4, .int .i64 a0_5, .int .i64 a0_6, .int .i64 a0_7, .int .i64 a0_8, .bool a0_9, .slice A0_10 l0_10.length c0_10, .bool a0_11, .int .u32 a0_12, .int .u32 a0_13, .string a0_14]] w fun e w' => e = .returned (.bool true) ∧ Below w.heap.size w w' := by
  have hu38 := Try.underlying38
  have HR0_10 := Aside0.mk hr0_10
  have HC0_10 := Aside0.mk hc0_10
  clear hr0_10 hc0_10
  have HB := Aside0.mk (Below.refl w.heap.size w)
  have H : ((rampartlaw16_light.f a0_0 a0_1 a0_2 a0_3 a0_4 a0_5 a0_6 a0_7 a0_8 a0_9 l0_10 a0_11 a0_12 a0_13 a0_14).bind fun t238 => (if t238 = true then ((edge_Last.f a0_0 a0_1 a0_2 a0_3 a0_4 a0_5 a0_6 a0_7 a0_8 a0_9 l0_10 a0_11 a0_12 a0_13 a0_14).bind fun t240 => (rampartlaw16_EdgeLast.l0 k t240 (t240 == a0_3) true 0 a0_0 a0_1 a0_2 a0_3 a0_4 a0_5 a0_6 a0_7 a0_8 a0_9 l0_10 a0_11 a0_12 a0_13 a0_14)) else ((rampartlaw16_known.f).bind fun t239 => (some t239)))) = some true := h
  clear h
  replace H := Option.bind_eq_some_iff.mp H
  obtain ⟨t238, A20, H⟩ := H
  replace H : (if t238 = true then ((edge_Last.f a0_0 a0_1 a0_2 a0_3 a0_4 a0_5 a0_6 a0_7 a0_8 a0_9 l0_10 a0_11 a0_12 a0_13 a0_14).bind fun t240 => (rampartlaw16_EdgeLast.l0 k t240 (t240 == a0_3) true 0 a0_0 a0_1 a0_2 a0_3 a0_4 a0_5 a0_6 a0_7 a0_8 a0_9 l0_10 a0_11 a0_12 a0_13 a0_14)) else ((rampartlaw16_known.f).bind fun t239 => (some t239))) = some true := H
  have A2 := Aside0.mk A20
  clear A20
  by_cases c3 : t238 = true
  · subst c3
    have H1 : ((edge_Last.f a0_0 a0_1 a0_2 a0_3 a0_4 a0_5 a0_6 a0_7 a0_8 a0_9 l0_10 a0_11 a0_12 a0_13 a0_14).bind fun t240 => (rampartlaw16_EdgeLast.l0 k t240 (t240 == a0_3) true 0 a0_0 a0_1 a0_2 a0_3 a0_4 a0_5 a0_6 a0_7 a0_8 a0_9 l0_10 a0_11 a0_12 a0_13 a0_14)) = some true := by rw [if_pos rfl] at H; exact H
    clear H
    have H := H1
    clear H1
    replace H := Option.bind_eq_some_iff.mp H
    obtain ⟨t240, A40, H⟩ := H
    replace H : (rampartlaw16_EdgeLast.l0 k t240 (t240 == a0_3) true 0 a0_0 a0_1 a0_2 a0_3 a0_4 a0_5 a0_6 a0_7 a0_8 a0_9 l0_10 a0_11 a0_12 a0_13 a0_14) = some true := H
    have A4 := Aside0.mk A40
    clear A40
    have H' := Aside0.mk H
    clear H
    go_enter Try.func12, Try.ntmps12
    go_wp2_with (first | ((with_reducible refine gate_dst (N := 1) rfl ?_); refine box_event ?hg (N := 1) ?hd (cs := #[.int .i64 a0_0, .int .i64 a0_1, .int .u32 a0_2, .int .u32 a0_3, .int .i64 a0_4, .int .i64 a0_5, .int .i64 a0_6, .int .i64 a0_7, .int .i64 a0_8, .bool a0_9, .slice A0_10 l0_10.length c0_10, .bool a0_11, .int .u32 a0_12, .int .u32 a0_13, .string a0_14]) (t := 38) ?hr ?_; (case hd => rfl); (case hg => rfl); (case hr => first | (go_simp; done) | (go_simp; rfl)); intro gb237 hg w5 hbox hb; have n0_ := Aside0.mk (below_step (by repeat (first | (with_reducible first | exact HB.out | apply below_alloc | apply pw_below_drewN | apply below_drew1) | exact HB.out)) hb); have n1_ := Aside0.mk (hbox); have n2_ := Aside0.mk ((by rw [hg]; exact (below_size (by repeat (first | (with_reducible first | exact HB.out | apply below_alloc | apply pw_below_drewN | apply below_drew1) | exact HB.out))) : w.heap.size ≤ gb237)); have n3_ := Aside0.mk ((by rw [hg]; exact (below_size (by repeat (first | (with_reducible first | exact HB.out | apply below_alloc | apply pw_below_drewN | apply below_drew1) | exact HB.out))) : w.heap.size ≤ gb237)); clear HB; have HB := n0_; have BK237 := n1_; have GW237 := n2_; have GE237 := n3_; clear n0_ n1_ n2_ n3_; clear hb hbox hg; have hcz6_0 : w5.cell? ⟨gb237, 0, none⟩ = some (.int .i64 a0_0) := (blk_cell BK237.out 0).trans rfl; have hcz6_1 : w5.cell? ⟨gb237, 1, none⟩ = some (.int .i64 a0_1) := (blk_cell BK237.out 1).trans rfl; have hcz6_2 : w5.cell? ⟨gb237, 2, none⟩ = some (.int .u32 a0_2) := (blk_cell BK237.out 2).trans rfl; have hcz6_3 : w5.cell? ⟨gb237, 3, none⟩ = some (.int .u32 a0_3) := (blk_cell BK237.out 3).trans rfl; have hcz6_4 : w5.cell? ⟨gb237, 4, none⟩ = some (.int .i64 a0_4) := (blk_cell BK237.out 4).trans rfl; have hcz6_5 : w5.cell? ⟨gb237, 5, none⟩ = some (.int .i64 a0_5) := (blk_cell BK237.out 5).trans rfl; have hcz6_6 : w5.cell? ⟨gb237, 6, none⟩ = some (.int .i64 a0_6) := (blk_cell BK237.out 6).trans rfl; have hcz6_7 : w5.cell? ⟨gb237, 7, none⟩ = some (.int .i64 a0_7) := (blk_cell BK237.out 7).trans rfl; have hcz6_8 : w5.cell? ⟨gb237, 8, none⟩ = some (.int .i64 a0_8) := (blk_cell BK237.out 8).trans rfl; have hcz6_9 : w5.cell? ⟨gb237, 9, none⟩ = some (.bool a0_9) := (blk_cell BK237.out 9).trans rfl; have hcz6_10 : w5.cell? ⟨gb237, 10, none⟩ = some (.slice A0_10 l0_10.length c0_10) := (blk_cell BK237.out 10).trans rfl; have hcz6_11 : w5.cell? ⟨gb237, 11, none⟩ = some (.bool a0_11) := (blk_cell BK237.out 11).trans rfl; have hcz6_12 : w5.cell? ⟨gb237, 12, none⟩ = some (.int .u32 a0_12) := (blk_cell BK237.out 12).trans rfl; have hcz6_13 : w5.cell? ⟨gb237, 13, none⟩ = some (.int .u32 a0_13) := (blk_cell BK237.out 13).trans rfl; have hcz6_14 : w5.cell? ⟨gb237, 14, none⟩ = some (.string a0_14) := (blk_cell BK237.out 14).trans rfl; have hfz6_0 := blk_frozen BK237.out 0; have hfz6_1 := blk_frozen BK237.out 1; have hfz6_2 := blk_frozen BK237.out 2; have hfz6_3 := blk_frozen BK237.out 3; have hfz6_4 := blk_frozen BK237.out 4; have hfz6_5 := blk_frozen BK237.out 5; have hfz6_6 := blk_frozen BK237.out 6; have hfz6_7 := blk_frozen BK237.out 7; have hfz6_8 := blk_frozen BK237.out 8; have hfz6_9 := blk_frozen BK237.out 9; have hfz6_10 := blk_frozen BK237.out 10; have hfz6_11 := blk_frozen BK237.out 11; have hfz6_12 := blk_frozen BK237.out 12; have hfz6_13 := blk_frozen BK237.out 13; have hfz6_14 := blk_frozen BK237.out 14) | (go_at_call 29; (with_reducible refine (rampartlaw16_light.calls a0_0 a0_1 a0_2 a0_3 a0_4 a0_5 a0_6 a0_7 a0_8 a0_9 _ _ l0_10 a0_11 a0_12 a0_13 a0_14 true _ ?side1 ?side2 A2.out).mono ?_); (case side1 => repeat (first | exact (Kd.C_below HR0_10.out HB.out) | (with_reducible refine Kd.C_alloc ?_ _) | (with_reducible refine Kd.C_drewN ?_ _) | (with_reducible refine Kd.C_drew ?_))); (case side2 => exact HC0_10.out); rintro e w7 ⟨rfl, hb⟩; have n0_ := Aside0.mk (blk_below (g := gb237) (o := .cells #[.int .i64 a0_0, .int .i64 a0_1, .int .u32 a0_2, .int .u32 a0_3, .int .i64 a0_4, .int .i64 a0_5, .int .i64 a0_6, .int .i64 a0_7, .int .i64 a0_8, .bool a0_9, .slice A0_10 l0_10.length c0_10, .bool a0_11, .int .u32 a0_12, .int .u32 a0_13, .string a0_14] 38 (0, 0)) (by (with_reducible repeat (first | refine blk_drewN ?_ _ | refine blk_drew ?_ | refine blk_alloc ?_ _)); exact BK237.out) hb); have n1_ := Aside0.mk (below_step (by repeat (first | (with_reducible first | exact HB.out | apply below_alloc | apply pw_below_drewN | apply below_drew1 | refine below_set ?_ GE237.out) | exact HB.out)) hb); clear BK237; clear HB; have BK237 := n0_; have HB := n1_; clear n0_ n1_; (try clear hb); (try clear hb2); (try clear hk); (try clear hi); have hcz8_0 : w7.cell? ⟨gb237, 0, none⟩ = some (.int .i64 a0_0) := (blk_cell BK237.out 0).trans rfl; have hcz8_1 : w7.cell? ⟨gb237, 1, none⟩ = some (.int .i64 a0_1) := (blk_cell BK237.out 1).trans rfl; have hcz8_2 : w7.cell? ⟨gb237, 2, none⟩ = some (.int .u32 a0_2) := (blk_cell BK237.out 2).trans rfl; have hcz8_3 : w7.cell? ⟨gb237, 3, none⟩ = some (.int .u32 a0_3) := (blk_cell BK237.out 3).trans rfl; have hcz8_4 : w7.cell? ⟨gb237, 4, none⟩ = some (.int .i64 a0_4) := (blk_cell BK237.out 4).trans rfl; have hcz8_5 : w7.cell? ⟨gb237, 5, none⟩ = some (.int .i64 a0_5) := (blk_cell BK237.out 5).trans rfl; have hcz8_6 : w7.cell? ⟨gb237, 6, none⟩ = some (.int .i64 a0_6) := (blk_cell BK237.out 6).trans rfl; have hcz8_7 : w7.cell? ⟨gb237, 7, none⟩ = some (.int .i64 a0_7) := (blk_cell BK237.out 7).trans rfl; have hcz8_8 : w7.cell? ⟨gb237, 8, none⟩ = some (.int .i64 a0_8) := (blk_cell BK237.out 8).trans rfl; have hcz8_9 : w7.cell? ⟨gb237, 9, none⟩ = some (.bool a0_9) := (blk_cell BK237.out 9).trans rfl; have hcz8_10 : w7.cell? ⟨gb237, 10, none⟩ = some (.slice A0_10 l0_10.length c0_10) := (blk_cell BK237.out 10).trans rfl; have hcz8_11 : w7.cell? ⟨gb237, 11, none⟩ = some (.bool a0_11) := (blk_cell BK237.out 11).trans rfl; have hcz8_12 : w7.cell? ⟨gb237, 12, none⟩ = some (.int .u32 a0_12) := (blk_cell BK237.out 12).trans rfl; have hcz8_13 : w7.cell? ⟨gb237, 13, none⟩ = some (.int .u32 a0_13) := (blk_cell BK237.out 13).trans rfl; have hcz8_14 : w7.cell? ⟨gb237, 14, none⟩ = some (.string a0_14) := (blk_cell BK237.out 14).trans rfl; have hfz8_0 := blk_frozen BK237.out 0; have hfz8_1 := blk_frozen BK237.out 1; have hfz8_2 := blk_frozen BK237.out 2; have hfz8_3 := blk_frozen BK237.out 3; have hfz8_4 := blk_frozen BK237.out 4; have hfz8_5 := blk_frozen BK237.out 5; have hfz8_6 := blk_frozen BK237.out 6; have hfz8_7 := blk_frozen BK237.out 7; have hfz8_8 := blk_frozen BK237.out 8; have hfz8_9 := blk_frozen BK237.out 9; have hfz8_10 := blk_frozen BK237.out 10; have hfz8_11 := blk_frozen BK237.out 11; have hfz8_12 := blk_frozen BK237.out 12; have hfz8_13 := blk_frozen BK237.out 13; have hfz8_14 := blk_frozen BK237.out 14) | (go_at_call 37; (with_reducible refine (edge_Last.calls a0_0 a0_1 a0_2 a0_3 a0_4 a0_5 a0_6 a0_7 a0_8 a0_9 _ _ l0_10 a0_11 a0_12 a0_13 a0_14 t240 _ ?side1 ?side2 A4.out).mono ?_); (case side1 => repeat (first | exact (Kd.C_below HR0_10.out HB.out) | (with_reducible refine Kd.C_alloc ?_ _) | (with_reducible refine Kd.C_drewN ?_ _) | (with_reducible refine Kd.C_drew ?_))); (case side2 => exact HC0_10.out); rintro e w9 ⟨rfl, hb⟩; have n0_ := Aside0.mk (blk_below (g := gb237) (o := .cells #[.int .i64 a0_0, .int .i64 a0_1, .int .u32 a0_2, .int .u32 a0_3, .int .i64 a0_4, .int .i64 a0_5, .int .i64 a0_6, .int .i64 a0_7, .int .i64 a0_8, .bool a0_9, .slice A0_10 l0_10.length c0_10, .bool a0_11, .int .u32 a0_12, .int .u32 a0_13, .string a0_14] 38 (0, 0)) (by (with_reducible repeat (first | refine blk_drewN ?_ _ | refine blk_drew ?_ | refine blk_alloc ?_ _)); exact BK237.out) hb); have n1_ := Aside0.mk (below_step (by repeat (first | (with_reducible first | exact HB.out | apply below_alloc | apply pw_below_drewN | apply below_drew1 | refine below_set ?_ GE237.out) | exact HB.out)) hb); clear BK237; clear HB; have BK237 := n0_; have HB := n1_; clear n0_ n1_; (try clear hb); (try clear hb2); (try clear hk); (try clear hi); have hcz10_0 : w9.cell? ⟨gb237, 0, none⟩ = some (.int .i64 a0_0) := (blk_cell BK237.out 0).trans rfl; have hcz10_1 : w9.cell? ⟨gb237, 1, none⟩ = some (.int .i64 a0_1) := (blk_cell BK237.out 1).trans rfl; have hcz10_2 : w9.cell? ⟨gb237, 2, none⟩ = some (.int .u32 a0_2) := (blk_cell BK237.out 2).trans rfl; have hcz10_3 : w9.cell? ⟨gb237, 3, none⟩ = some (.int .u32 a0_3) := (blk_cell BK237.out 3).trans rfl; have hcz10_4 : w9.cell? ⟨gb237, 4, none⟩ = some (.int .i64 a0_4) := (blk_cell BK237.out 4).trans rfl; have hcz10_5 : w9.cell? ⟨gb237, 5, none⟩ = some (.int .i64 a0_5) := (blk_cell BK237.out 5).trans rfl; have hcz10_6 : w9.cell? ⟨gb237, 6, none⟩ = some (.int .i64 a0_6) := (blk_cell BK237.out 6).trans rfl; have hcz10_7 : w9.cell? ⟨gb237, 7, none⟩ = some (.int .i64 a0_7) := (blk_cell BK237.out 7).trans rfl; have hcz10_8 : w9.cell? ⟨gb237, 8, none⟩ = some (.int .i64 a0_8) := (blk_cell BK237.out 8).trans rfl; have hcz10_9 : w9.cell? ⟨gb237, 9, none⟩ = some (.bool a0_9) := (blk_cell BK237.out 9).trans rfl; have hcz10_10 : w9.cell? ⟨gb237, 10, none⟩ = some (.slice A0_10 l0_10.length c0_10) := (blk_cell BK237.out 10).trans rfl; have hcz10_11 : w9.cell? ⟨gb237, 11, none⟩ = some (.bool a0_11) := (blk_cell BK237.out 11).trans rfl; have hcz10_12 : w9.cell? ⟨gb237, 12, none⟩ = some (.int .u32 a0_12) := (blk_cell BK237.out 12).trans rfl; have hcz10_13 : w9.cell? ⟨gb237, 13, none⟩ = some (.int .u32 a0_13) := (blk_cell BK237.out 13).trans rfl; have hcz10_14 : w9.cell? ⟨gb237, 14, none⟩ = some (.string a0_14) := (blk_cell BK237.out 14).trans rfl; have hfz10_0 := blk_frozen BK237.out 0; have hfz10_1 := blk_frozen BK237.out 1; have hfz10_2 := blk_frozen BK237.out 2; have hfz10_3 := blk_frozen BK237.out 3; have hfz10_4 := blk_frozen BK237.out 4; have hfz10_5 := blk_frozen BK237.out 5; have hfz10_6 := blk_frozen BK237.out 6; have hfz10_7 := blk_frozen BK237.out 7; have hfz10_8 := blk_frozen BK237.out 8; have hfz10_9 := blk_frozen BK237.out 9; have hfz10_10 := blk_frozen BK237.out 10; have hfz10_11 := blk_frozen BK237.out 11; have hfz10_12 := blk_frozen BK237.out 12; have hfz10_13 := blk_frozen BK237.out 13; have hfz10_14 := blk_frozen BK237.out 14))
    repeat (go_quiet (first | ((with_reducible refine gate_dst (N := 1) rfl ?_); refine box_event ?hg (N := 1) ?hd (cs := #[.int .i64 a0_0, .int .i64 a0_1, .int .u32 a0_2, .int .u32 a0_3, .int .i64 a0_4, .int .i64 a0_5, .int .i64 a0_6, .int .i64 a0_7, .int .i64 a0_8, .bool a0_9, .slice A0_10 l0_10.length c0_10, .bool a0_11, .int .u32 a0_12, .int .u32 a0_13, .string a0_14]) (t := 38) ?hr ?_; (case hd => rfl); (case hg => rfl); (case hr => first | (go_simp; done) | (go_simp; rfl)); intro gb237 hg w5 hbox hb; have n0_ := Aside0.mk (below_step (by repeat (first | (with_reducible first | exact HB.out | apply below_alloc | apply pw_below_drewN | apply below_drew1) | exact HB.out)) hb); have n1_ := Aside0.mk (hbox); have n2_ := Aside0.mk ((by rw [hg]; exact (below_size (by repeat (first | (with_reducible first | exact HB.out | apply below_alloc | apply pw_below_drewN | apply below_drew1) | exact HB.out))) : w.heap.size ≤ gb237)); have n3_ := Aside0.mk ((by rw [hg]; exact (below_size (by repeat (first | (with_reducible first | exact HB.out | apply below_alloc | apply pw_below_drewN | apply below_drew1) | exact HB.out))) : w.heap.size ≤ gb237)); clear HB; have HB := n0_; have BK237 := n1_; have GW237 := n2_; have GE237 := n3_; clear n0_ n1_ n2_ n3_; clear hb hbox hg; have hcz6_0 : w5.cell? ⟨gb237, 0, none⟩ = some (.int .i64 a0_0) := (blk_cell BK237.out 0).trans rfl; have hcz6_1 : w5.cell? ⟨gb237, 1, none⟩ = some (.int .i64 a0_1) := (blk_cell BK237.out 1).trans rfl; have hcz6_2 : w5.cell? ⟨gb237, 2, none⟩ = some (.int .u32 a0_2) := (blk_cell BK237.out 2).trans rfl; have hcz6_3 : w5.cell? ⟨gb237, 3, none⟩ = some (.int .u32 a0_3) := (blk_cell BK237.out 3).trans rfl; have hcz6_4 : w5.cell? ⟨gb237, 4, none⟩ = some (.int .i64 a0_4) := (blk_cell BK237.out 4).trans rfl; have hcz6_5 : w5.cell? ⟨gb237, 5, none⟩ = some (.int .i64 a0_5) := (blk_cell BK237.out 5).trans rfl; have hcz6_6 : w5.cell? ⟨gb237, 6, none⟩ = some (.int .i64 a0_6) := (blk_cell BK237.out 6).trans rfl; have hcz6_7 : w5.cell? ⟨gb237, 7, none⟩ = some (.int .i64 a0_7) := (blk_cell BK237.out 7).trans rfl; have hcz6_8 : w5.cell? ⟨gb237, 8, none⟩ = some (.int .i64 a0_8) := (blk_cell BK237.out 8).trans rfl; have hcz6_9 : w5.cell? ⟨gb237, 9, none⟩ = some (.bool a0_9) := (blk_cell BK237.out 9).trans rfl; have hcz6_10 : w5.cell? ⟨gb237, 10, none⟩ = some (.slice A0_10 l0_10.length c0_10) := (blk_cell BK237.out 10).trans rfl; have hcz6_11 : w5.cell? ⟨gb237, 11, none⟩ = some (.bool a0_11) := (blk_cell BK237.out 11).trans rfl; have hcz6_12 : w5.cell? ⟨gb237, 12, none⟩ = some (.int .u32 a0_12) := (blk_cell BK237.out 12).trans rfl; have hcz6_13 : w5.cell? ⟨gb237, 13, none⟩ = some (.int .u32 a0_13) := (blk_cell BK237.out 13).trans rfl; have hcz6_14 : w5.cell? ⟨gb237, 14, none⟩ = some (.string a0_14) := (blk_cell BK237.out 14).trans rfl; have hfz6_0 := blk_frozen BK237.out 0; have hfz6_1 := blk_frozen BK237.out 1; have hfz6_2 := blk_frozen BK237.out 2; have hfz6_3 := blk_frozen BK237.out 3; have hfz6_4 := blk_frozen BK237.out 4; have hfz6_5 := blk_frozen BK237.out 5; have hfz6_6 := blk_frozen BK237.out 6; have hfz6_7 := blk_frozen BK237.out 7; have hfz6_8 := blk_frozen BK237.out 8; have hfz6_9 := blk_frozen BK237.out 9; have hfz6_10 := blk_frozen BK237.out 10; have hfz6_11 := blk_frozen BK237.out 11; have hfz6_12 := blk_frozen BK237.out 12; have hfz6_13 := blk_frozen BK237.out 13; have hfz6_14 := blk_frozen BK237.out 14) | (go_at_call 29; (with_reducible refine (rampartlaw16_light.calls a0_0 a0_1 a0_2 a0_3 a0_4 a0_5 a0_6 a0_7 a0_8 a0_9 _ _ l0_10 a0_11 a0_12 a0_13 a0_14 true _ ?side1 ?side2 A2.out).mono ?_); (case side1 => repeat (first | exact (Kd.C_below HR0_10.out HB.out) | (with_reducible refine Kd.C_alloc ?_ _) | (with_reducible refine Kd.C_drewN ?_ _) | (with_reducible refine Kd.C_drew ?_))); (case side2 => exact HC0_10.out); rintro e w7 ⟨rfl, hb⟩; have n0_ := Aside0.mk (blk_below (g := gb237) (o := .cells #[.int .i64 a0_0, .int .i64 a0_1, .int .u32 a0_2, .int .u32 a0_3, .int .i64 a0_4, .int .i64 a0_5, .int .i64 a0_6, .int .i64 a0_7, .int .i64 a0_8, .bool a0_9, .slice A0_10 l0_10.length c0_10, .bool a0_11, .int .u32 a0_12, .int .u32 a0_13, .string a0_14] 38 (0, 0)) (by (with_reducible repeat (first | refine blk_drewN ?_ _ | refine blk_drew ?_ | refine blk_alloc ?_ _)); exact BK237.out) hb); have n1_ := Aside0.mk (below_step (by repeat (first | (with_reducible first | exact HB.out | apply below_alloc | apply pw_below_drewN | apply below_drew1 | refine below_set ?_ GE237.out) | exact HB.out)) hb); clear BK237; clear HB; have BK237 := n0_; have HB := n1_; clear n0_ n1_; (try clear hb); (try clear hb2); (try clear hk); (try clear hi); have hcz8_0 : w7.cell? ⟨gb237, 0, none⟩ = some (.int .i64 a0_0) := (blk_cell BK237.out 0).trans rfl; have hcz8_1 : w7.cell? ⟨gb237, 1, none⟩ = some (.int .i64 a0_1) := (blk_cell BK237.out 1).trans rfl; have hcz8_2 : w7.cell? ⟨gb237, 2, none⟩ = some (.int .u32 a0_2) := (blk_cell BK237.out 2).trans rfl; have hcz8_3 : w7.cell? ⟨gb237, 3, none⟩ = some (.int .u32 a0_3) := (blk_cell BK237.out 3).trans rfl; have hcz8_4 : w7.cell? ⟨gb237, 4, none⟩ = some (.int .i64 a0_4) := (blk_cell BK237.out 4).trans rfl; have hcz8_5 : w7.cell? ⟨gb237, 5, none⟩ = some (.int .i64 a0_5) := (blk_cell BK237.out 5).trans rfl; have hcz8_6 : w7.cell? ⟨gb237, 6, none⟩ = some (.int .i64 a0_6) := (blk_cell BK237.out 6).trans rfl; have hcz8_7 : w7.cell? ⟨gb237, 7, none⟩ = some (.int .i64 a0_7) := (blk_cell BK237.out 7).trans rfl; have hcz8_8 : w7.cell? ⟨gb237, 8, none⟩ = some (.int .i64 a0_8) := (blk_cell BK237.out 8).trans rfl; have hcz8_9 : w7.cell? ⟨gb237, 9, none⟩ = some (.bool a0_9) := (blk_cell BK237.out 9).trans rfl; have hcz8_10 : w7.cell? ⟨gb237, 10, none⟩ = some (.slice A0_10 l0_10.length c0_10) := (blk_cell BK237.out 10).trans rfl; have hcz8_11 : w7.cell? ⟨gb237, 11, none⟩ = some (.bool a0_11) := (blk_cell BK237.out 11).trans rfl; have hcz8_12 : w7.cell? ⟨gb237, 12, none⟩ = some (.int .u32 a0_12) := (blk_cell BK237.out 12).trans rfl; have hcz8_13 : w7.cell? ⟨gb237, 13, none⟩ = some (.int .u32 a0_13) := (blk_cell BK237.out 13).trans rfl; have hcz8_14 : w7.cell? ⟨gb237, 14, none⟩ = some (.string a0_14) := (blk_cell BK237.out 14).trans rfl; have hfz8_0 := blk_frozen BK237.out 0; have hfz8_1 := blk_frozen BK237.out 1; have hfz8_2 := blk_frozen BK237.out 2; have hfz8_3 := blk_frozen BK237.out 3; have hfz8_4 := blk_frozen BK237.out 4; have hfz8_5 := blk_frozen BK237.out 5; have hfz8_6 := blk_frozen BK237.out 6; have hfz8_7 := blk_frozen BK237.out 7; have hfz8_8 := blk_frozen BK237.out 8; have hfz8_9 := blk_frozen BK237.out 9; have hfz8_10 := blk_frozen BK237.out 10; have hfz8_11 := blk_frozen BK237.out 11; have hfz8_12 := blk_frozen BK237.out 12; have hfz8_13 := blk_frozen BK237.out 13; have hfz8_14 := blk_frozen BK237.out 14) | (go_at_call 37; (with_reducible refine (edge_Last.calls a0_0 a0_1 a0_2 a0_3 a0_4 a0_5 a0_6 a0_7 a0_8 a0_9 _ _ l0_10 a0_11 a0_12 a0_13 a0_14 t240 _ ?side1 ?side2 A4.out).mono ?_); (case side1 => repeat (first | exact (Kd.C_below HR0_10.out HB.out) | (with_reducible refine Kd.C_alloc ?_ _) | (with_reducible refine Kd.C_drewN ?_ _) | (with_reducible refine Kd.C_drew ?_))); (case side2 => exact HC0_10.out); rintro e w9 ⟨rfl, hb⟩; have n0_ := Aside0.mk (blk_below (g := gb237) (o := .cells #[.int .i64 a0_0, .int .i64 a0_1, .int .u32 a0_2, .int .u32 a0_3, .int .i64 a0_4, .int .i64 a0_5, .int .i64 a0_6, .int .i64 a0_7, .int .i64 a0_8, .bool a0_9, .slice A0_10 l0_10.length c0_10, .bool a0_11, .int .u32 a0_12, .int .u32 a0_13, .string a0_14] 38 (0, 0)) (by (with_reducible repeat (first | refine blk_drewN ?_ _ | refine blk_drew ?_ | refine blk_alloc ?_ _)); exact BK237.out) hb); have n1_ := Aside0.mk (below_step (by repeat (first | (with_reducible first | exact HB.out | apply below_alloc | apply pw_below_drewN | apply below_drew1 | refine below_set ?_ GE237.out) | exact HB.out)) hb); clear BK237; clear HB; have BK237 := n0_; have HB := n1_; clear n0_ n1_; (try clear hb); (try clear hb2); (try clear hk); (try clear hi); have hcz10_0 : w9.cell? ⟨gb237, 0, none⟩ = some (.int .i64 a0_0) := (blk_cell BK237.out 0).trans rfl; have hcz10_1 : w9.cell? ⟨gb237, 1, none⟩ = some (.int .i64 a0_1) := (blk_cell BK237.out 1).trans rfl; have hcz10_2 : w9.cell? ⟨gb237, 2, none⟩ = some (.int .u32 a0_2) := (blk_cell BK237.out 2).trans rfl; have hcz10_3 : w9.cell? ⟨gb237, 3, none⟩ = some (.int .u32 a0_3) := (blk_cell BK237.out 3).trans rfl; have hcz10_4 : w9.cell? ⟨gb237, 4, none⟩ = some (.int .i64 a0_4) := (blk_cell BK237.out 4).trans rfl; have hcz10_5 : w9.cell? ⟨gb237, 5, none⟩ = some (.int .i64 a0_5) := (blk_cell BK237.out 5).trans rfl; have hcz10_6 : w9.cell? ⟨gb237, 6, none⟩ = some (.int .i64 a0_6) := (blk_cell BK237.out 6).trans rfl; have hcz10_7 : w9.cell? ⟨gb237, 7, none⟩ = some (.int .i64 a0_7) := (blk_cell BK237.out 7).trans rfl; have hcz10_8 : w9.cell? ⟨gb237, 8, none⟩ = some (.int .i64 a0_8) := (blk_cell BK237.out 8).trans rfl; have hcz10_9 : w9.cell? ⟨gb237, 9, none⟩ = some (.bool a0_9) := (blk_cell BK237.out 9).trans rfl; have hcz10_10 : w9.cell? ⟨gb237, 10, none⟩ = some (.slice A0_10 l0_10.length c0_10) := (blk_cell BK237.out 10).trans rfl; have hcz10_11 : w9.cell? ⟨gb237, 11, none⟩ = some (.bool a0_11) := (blk_cell BK237.out 11).trans rfl; have hcz10_12 : w9.cell? ⟨gb237, 12, none⟩ = some (.int .u32 a0_12) := (blk_cell BK237.out 12).trans rfl; have hcz10_13 : w9.cell? ⟨gb237, 13, none⟩ = some (.int .u32 a0_13) := (blk_cell BK237.out 13).trans rfl; have hcz10_14 : w9.cell? ⟨gb237, 14, none⟩ = some (.string a0_14) := (blk_cell BK237.out 14).trans rfl; have hfz10_0 := blk_frozen BK237.out 0; have hfz10_1 := blk_frozen BK237.out 1; have hfz10_2 := blk_frozen BK237.out 2; have hfz10_3 := blk_frozen BK237.out 3; have hfz10_4 := blk_frozen BK237.out 4; have hfz10_5 := blk_frozen BK237.out 5; have hfz10_6 := blk_frozen BK237.out 6; have hfz10_7 := blk_frozen BK237.out 7; have hfz10_8 := blk_frozen BK237.out 8; have hfz10_9 := blk_frozen BK237.out 9; have hfz10_10 := blk_frozen BK237.out 10; have hfz10_11 := blk_frozen BK237.out 11; have hfz10_12 := blk_frozen BK237.out 12; have hfz10_13 := blk_frozen BK237.out 13; have hfz10_14 := blk_frozen BK237.out 14)); try go_wp2_with (first | ((with_reducible refine gate_dst (N := 1) rfl ?_); refine box_event ?hg (N := 1) ?hd (cs := #[.int .i64 a0_0, .int .i64 a0_1, .int .u32 a0_2, .int .u32 a0_3, .int .i64 a0_4, .int .i64 a0_5, .int .i64 a0_6, .int .i64 a0_7, .int .i64 a0_8, .bool a0_9, .slice A0_10 l0_10.length c0_10, .bool a0_11, .int .u32 a0_12, .int .u32 a0_13, .string a0_14]) (t := 38) ?hr ?_; (case hd => rfl); (case hg => rfl); (case hr => first | (go_simp; done) | (go_simp; rfl)); intro gb237 hg w5 hbox hb; have n0_ := Aside0.mk (below_step (by repeat (first | (with_reducible first | exact HB.out | apply below_alloc | apply pw_below_drewN | apply below_drew1) | exact HB.out)) hb); have n1_ := Aside0.mk (hbox); have n2_ := Aside0.mk ((by rw [hg]; exact (below_size (by repeat (first | (with_reducible first | exact HB.out | apply below_alloc | apply pw_below_drewN | apply below_drew1) | exact HB.out))) : w.heap.size ≤ gb237)); have n3_ := Aside0.mk ((by rw [hg]; exact (below_size (by repeat (first | (with_reducible first | exact HB.out | apply below_alloc | apply pw_below_drewN | apply below_drew1) | exact HB.out))) : w.heap.size ≤ gb237)); clear HB; have HB := n0_; have BK237 := n1_; have GW237 := n2_; have GE237 := n3_; clear n0_ n1_ n2_ n3_; clear hb hbox hg; have hcz6_0 : w5.cell? ⟨gb237, 0, none⟩ = some (.int .i64 a0_0) := (blk_cell BK237.out 0).trans rfl; have hcz6_1 : w5.cell? ⟨gb237, 1, none⟩ = some (.int .i64 a0_1) := (blk_cell BK237.out 1).trans rfl; have hcz6_2 : w5.cell? ⟨gb237, 2, none⟩ = some (.int .u32 a0_2) := (blk_cell BK237.out 2).trans rfl; have hcz6_3 : w5.cell? ⟨gb237, 3, none⟩ = some (.int .u32 a0_3) := (blk_cell BK237.out 3).trans rfl; have hcz6_4 : w5.cell? ⟨gb237, 4, none⟩ = some (.int .i64 a0_4) := (blk_cell BK237.out 4).trans rfl; have hcz6_5 : w5.cell? ⟨gb237, 5, none⟩ = some (.int .i64 a0_5) := (blk_cell BK237.out 5).trans rfl; have hcz6_6 : w5.cell? ⟨gb237, 6, none⟩ = some (.int .i64 a0_6) := (blk_cell BK237.out 6).trans rfl; have hcz6_7 : w5.cell? ⟨gb237, 7, none⟩ = some (.int .i64 a0_7) := (blk_cell BK237.out 7).trans rfl; have hcz6_8 : w5.cell? ⟨gb237, 8, none⟩ = some (.int .i64 a0_8) := (blk_cell BK237.out 8).trans rfl; have hcz6_9 : w5.cell? ⟨gb237, 9, none⟩ = some (.bool a0_9) := (blk_cell BK237.out 9).trans rfl; have hcz6_10 : w5.cell? ⟨gb237, 10, none⟩ = some (.slice A0_10 l0_10.length c0_10) := (blk_cell BK237.out 10).trans rfl; have hcz6_11 : w5.cell? ⟨gb237, 11, none⟩ = some (.bool a0_11) := (blk_cell BK237.out 11).trans rfl; have hcz6_12 : w5.cell? ⟨gb237, 12, none⟩ = some (.int .u32 a0_12) := (blk_cell BK237.out 12).trans rfl; have hcz6_13 : w5.cell? ⟨gb237, 13, none⟩ = some (.int .u32 a0_13) := (blk_cell BK237.out 13).trans rfl; have hcz6_14 : w5.cell? ⟨gb237, 14, none⟩ = some (.string a0_14) := (blk_cell BK237.out 14).trans rfl; have hfz6_0 := blk_frozen BK237.out 0; have hfz6_1 := blk_frozen BK237.out 1; have hfz6_2 := blk_frozen BK237.out 2; have hfz6_3 := blk_frozen BK237.out 3; have hfz6_4 := blk_frozen BK237.out 4; have hfz6_5 := blk_frozen BK237.out 5; have hfz6_6 := blk_frozen BK237.out 6; have hfz6_7 := blk_frozen BK237.out 7; have hfz6_8 := blk_frozen BK237.out 8; have hfz6_9 := blk_frozen BK237.out 9; have hfz6_10 := blk_frozen BK237.out 10; have hfz6_11 := blk_frozen BK237.out 11; have hfz6_12 := blk_frozen BK237.out 12; have hfz6_13 := blk_frozen BK237.out 13; have hfz6_14 := blk_frozen BK237.out 14) | (go_at_call 29; (with_reducible refine (rampartlaw16_light.calls a0_0 a0_1 a0_2 a0_3 a0_4 a0_5 a0_6 a0_7 a0_8 a0_9 _ _ l0_10 a0_11 a0_12 a0_13 a0_14 true _ ?side1 ?side2 A2.out).mono ?_); (case side1 => repeat (first | exact (Kd.C_below HR0_10.out HB.out) | (with_reducible refine Kd.C_alloc ?_ _) | (with_reducible refine Kd.C_drewN ?_ _) | (with_reducible refine Kd.C_drew ?_))); (case side2 => exact HC0_10.out); rintro e w7 ⟨rfl, hb⟩; have n0_ := Aside0.mk (blk_below (g := gb237) (o := .cells #[.int .i64 a0_0, .int .i64 a0_1, .int .u32 a0_2, .int .u32 a0_3, .int .i64 a0_4, .int .i64 a0_5, .int .i64 a0_6, .int .i64 a0_7, .int .i64 a0_8, .bool a0_9, .slice A0_10 l0_10.length c0_10, .bool a0_11, .int .u32 a0_12, .int .u32 a0_13, .string a0_14] 38 (0, 0)) (by (with_reducible repeat (first | refine blk_drewN ?_ _ | refine blk_drew ?_ | refine blk_alloc ?_ _)); exact BK237.out) hb); have n1_ := Aside0.mk (below_step (by repeat (first | (with_reducible first | exact HB.out | apply below_alloc | apply pw_below_drewN | apply below_drew1 | refine below_set ?_ GE237.out) | exact HB.out)) hb); clear BK237; clear HB; have BK237 := n0_; have HB := n1_; clear n0_ n1_; (try clear hb); (try clear hb2); (try clear hk); (try clear hi); have hcz8_0 : w7.cell? ⟨gb237, 0, none⟩ = some (.int .i64 a0_0) := (blk_cell BK237.out 0).trans rfl; have hcz8_1 : w7.cell? ⟨gb237, 1, none⟩ = some (.int .i64 a0_1) := (blk_cell BK237.out 1).trans rfl; have hcz8_2 : w7.cell? ⟨gb237, 2, none⟩ = some (.int .u32 a0_2) := (blk_cell BK237.out 2).trans rfl; have hcz8_3 : w7.cell? ⟨gb237, 3, none⟩ = some (.int .u32 a0_3) := (blk_cell BK237.out 3).trans rfl; have hcz8_4 : w7.cell? ⟨gb237, 4, none⟩ = some (.int .i64 a0_4) := (blk_cell BK237.out 4).trans rfl; have hcz8_5 : w7.cell? ⟨gb237, 5, none⟩ = some (.int .i64 a0_5) := (blk_cell BK237.out 5).trans rfl; have hcz8_6 : w7.cell? ⟨gb237, 6, none⟩ = some (.int .i64 a0_6) := (blk_cell BK237.out 6).trans rfl; have hcz8_7 : w7.cell? ⟨gb237, 7, none⟩ = some (.int .i64 a0_7) := (blk_cell BK237.out 7).trans rfl; have hcz8_8 : w7.cell? ⟨gb237, 8, none⟩ = some (.int .i64 a0_8) := (blk_cell BK237.out 8).trans rfl; have hcz8_9 : w7.cell? ⟨gb237, 9, none⟩ = some (.bool a0_9) := (blk_cell BK237.out 9).trans rfl; have hcz8_10 : w7.cell? ⟨gb237, 10, none⟩ = some (.slice A0_10 l0_10.length c0_10) := (blk_cell BK237.out 10).trans rfl; have hcz8_11 : w7.cell? ⟨gb237, 11, none⟩ = some (.bool a0_11) := (blk_cell BK237.out 11).trans rfl; have hcz8_12 : w7.cell? ⟨gb237, 12, none⟩ = some (.int .u32 a0_12) := (blk_cell BK237.out 12).trans rfl; have hcz8_13 : w7.cell? ⟨gb237, 13, none⟩ = some (.int .u32 a0_13) := (blk_cell BK237.out 13).trans rfl; have hcz8_14 : w7.cell? ⟨gb237, 14, none⟩ = some (.string a0_14) := (blk_cell BK237.out 14).trans rfl; have hfz8_0 := blk_frozen BK237.out 0; have hfz8_1 := blk_frozen BK237.out 1; have hfz8_2 := blk_frozen BK237.out 2; have hfz8_3 := blk_frozen BK237.out 3; have hfz8_4 := blk_frozen BK237.out 4; have hfz8_5 := blk_frozen BK237.out 5; have hfz8_6 := blk_frozen BK237.out 6; have hfz8_7 := blk_frozen BK237.out 7; have hfz8_8 := blk_frozen BK237.out 8; have hfz8_9 := blk_frozen BK237.out 9; have hfz8_10 := blk_frozen BK237.out 10; have hfz8_11 := blk_frozen BK237.out 11; have hfz8_12 := blk_frozen BK237.out 12; have hfz8_13 := blk_frozen BK237.out 13; have hfz8_14 := blk_frozen BK237.out 14) | (go_at_call 37; (with_reducible refine (edge_Last.calls a0_0 a0_1 a0_2 a0_3 a0_4 a0_5 a0_6 a0_7 a0_8 a0_9 _ _ l0_10 a0_11 a0_12 a0_13 a0_14 t240 _ ?side1 ?side2 A4.out).mono ?_); (case side1 => repeat (first | exact (Kd.C_below HR0_10.out HB.out) | (with_reducible refine Kd.C_alloc ?_ _) | (with_reducible refine Kd.C_drewN ?_ _) | (with_reducible refine Kd.C_drew ?_))); (case side2 => exact HC0_10.out); rintro e w9 ⟨rfl, hb⟩; have n0_ := Aside0.mk (blk_below (g := gb237) (o := .cells #[.int .i64 a0_0, .int .i64 a0_1, .int .u32 a0_2, .int .u32 a0_3, .int .i64 a0_4, .int .i64 a0_5, .int .i64 a0_6, .int .i64 a0_7, .int .i64 a0_8, .bool a0_9, .slice A0_10 l0_10.length c0_10, .bool a0_11, .int .u32 a0_12, .int .u32 a0_13, .string a0_14] 38 (0, 0)) (by (with_reducible repeat (first | refine blk_drewN ?_ _ | refine blk_drew ?_ | refine blk_alloc ?_ _)); exact BK237.out) hb); have n1_ := Aside0.mk (below_step (by repeat (first | (with_reducible first | exact HB.out | apply below_alloc | apply pw_below_drewN | apply below_drew1 | refine below_set ?_ GE237.out) | exact HB.out)) hb); clear BK237; clear HB; have BK237 := n0_; have HB := n1_; clear n0_ n1_; (try clear hb); (try clear hb2); (try clear hk); (try clear hi); have hcz10_0 : w9.cell? ⟨gb237, 0, none⟩ = some (.int .i64 a0_0) := (blk_cell BK237.out 0).trans rfl; have hcz10_1 : w9.cell? ⟨gb237, 1, none⟩ = some (.int .i64 a0_1) := (blk_cell BK237.out 1).trans rfl; have hcz10_2 : w9.cell? ⟨gb237, 2, none⟩ = some (.int .u32 a0_2) := (blk_cell BK237.out 2).trans rfl; have hcz10_3 : w9.cell? ⟨gb237, 3, none⟩ = some (.int .u32 a0_3) := (blk_cell BK237.out 3).trans rfl; have hcz10_4 : w9.cell? ⟨gb237, 4, none⟩ = some (.int .i64 a0_4) := (blk_cell BK237.out 4).trans rfl; have hcz10_5 : w9.cell? ⟨gb237, 5, none⟩ = some (.int .i64 a0_5) := (blk_cell BK237.out 5).trans rfl; have hcz10_6 : w9.cell? ⟨gb237, 6, none⟩ = some (.int .i64 a0_6) := (blk_cell BK237.out 6).trans rfl; have hcz10_7 : w9.cell? ⟨gb237, 7, none⟩ = some (.int .i64 a0_7) := (blk_cell BK237.out 7).trans rfl; have hcz10_8 : w9.cell? ⟨gb237, 8, none⟩ = some (.int .i64 a0_8) := (blk_cell BK237.out 8).trans rfl; have hcz10_9 : w9.cell? ⟨gb237, 9, none⟩ = some (.bool a0_9) := (blk_cell BK237.out 9).trans rfl; have hcz10_10 : w9.cell? ⟨gb237, 10, none⟩ = some (.slice A0_10 l0_10.length c0_10) := (blk_cell BK237.out 10).trans rfl; have hcz10_11 : w9.cell? ⟨gb237, 11, none⟩ = some (.bool a0_11) := (blk_cell BK237.out 11).trans rfl; have hcz10_12 : w9.cell? ⟨gb237, 12, none⟩ = some (.int .u32 a0_12) := (blk_cell BK237.out 12).trans rfl; have hcz10_13 : w9.cell? ⟨gb237, 13, none⟩ = some (.int .u32 a0_13) := (blk_cell BK237.out 13).trans rfl; have hcz10_14 : w9.cell? ⟨gb237, 14, none⟩ = some (.string a0_14) := (blk_cell BK237.out 14).trans rfl; have hfz10_0 := blk_frozen BK237.out 0; have hfz10_1 := blk_frozen BK237.out 1; have hfz10_2 := blk_frozen BK237.out 2; have hfz10_3 := blk_frozen BK237.out 3; have hfz10_4 := blk_frozen BK237.out 4; have hfz10_5 := blk_frozen BK237.out 5; have hfz10_6 := blk_frozen BK237.out 6; have hfz10_7 := blk_frozen BK237.out 7; have hfz10_8 := blk_frozen BK237.out 8; have hfz10_9 := blk_frozen BK237.out 9; have hfz10_10 := blk_frozen BK237.out 10; have hfz10_11 := blk_frozen BK237.out 11; have hfz10_12 := blk_frozen BK237.out 12; have hfz10_13 := blk_frozen BK237.out 13; have hfz10_14 := blk_frozen BK237.out 14)))
    go_loopg [4, 5, 6] k (fun kq v4 v5 v6 w' => ∃ (x4_1 : Bool) (x5_1 : Bool) (x6_1 : Int), v4 = .bool x4_1 ∧ v5 = .bool x5_1 ∧ v6 = .int .i64 x6_1 ∧ Aside0 (rampartlaw16_EdgeLast.l0 kq t240 x4_1 x5_1 x6_1 a0_0 a0_1 a0_2 a0_3 a0_4 a0_5 a0_6 a0_7 a0_8 a0_9 l0_10 a0_11 a0_12 a0_13 a0_14 = some true) ∧ Aside0 (kq ≤ k) ∧ Aside0 (w'.heap[gb237]? = some (.cells #[.int .i64 a0_0, .int .i64 a0_1, .int .u32 a0_2, .int .u32 a0_3, .int .i64 a0_4, .int .i64 a0_5, .int .i64 a0_6, .int .i64 a0_7, .int .i64 a0_8, .bool a0_9, (.slice A0_10 l0_10.length c0_10), .bool a0_11, .int .u32 a0_12, .int .u32 a0_13, .string a0_14] 38 (0, 0))) ∧ Aside0 (Below w.heap.size w w'))
    case atStart => exact ⟨((t240 == a0_3)), (true), (0), (by first | rfl | (simp; done) | (simp [*]; done)), (by first | rfl | (simp; done) | (simp [*]; done)), (by first | rfl | (simp; done) | (simp [*]; done)), H', ⟨Nat.le_refl _⟩, ⟨by (with_reducible repeat (first | refine blk_drewN ?_ _ | refine blk_drew ?_ | refine blk_alloc ?_ _)); exact BK237.out⟩, ⟨by repeat (first | (with_reducible first | exact HB.out | apply below_alloc | apply pw_below_drewN | apply below_drew1 | refine below_set ?_ GE237.out) | exact HB.out)⟩⟩
    case round =>
      clear H'
      try clear c1
      try clear p2
      try clear c3
      try clear hcz10_0
      try clear hcz10_1
      try clear hcz10_10
      try clear hcz10_11
      try clear hcz10_12
      try clear hcz10_13
      try clear hcz10_14
      try clear hcz10_2
      try clear hcz10_3
      try clear hcz10_4
      try clear hcz10_5
      try clear hcz10_6
      try clear hcz10_7
      try clear hcz10_8
      try clear hcz10_9
      try clear hcz6_0
      try clear hcz6_1
      try clear hcz6_10
      try clear hcz6_11
      try clear hcz6_12
      try clear hcz6_13
      try clear hcz6_14
      try clear hcz6_2
      try clear hcz6_3
      try clear hcz6_4
      try clear hcz6_5
      try clear hcz6_6
      try clear hcz6_7
      try clear hcz6_8
      try clear hcz6_9
      try clear hcz8_0
      try clear hcz8_1
      try clear hcz8_10
      try clear hcz8_11
      try clear hcz8_12
      try clear hcz8_13
      try clear hcz8_14
      try clear hcz8_2
      try clear hcz8_3
      try clear hcz8_4
      try clear hcz8_5
      try clear hcz8_6
      try clear hcz8_7
      try clear hcz8_8
      try clear hcz8_9
      try clear hfz10_0
      try clear hfz10_1
      try clear hfz10_10
      try clear hfz10_11
      try clear hfz10_12
      try clear hfz10_13
      try clear hfz10_14
      try clear hfz10_2
      try clear hfz10_3
      try clear hfz10_4
      try clear hfz10_5
      try clear hfz10_6
      try clear hfz10_7
      try clear hfz10_8
      try clear hfz10_9
      try clear hfz6_0
      try clear hfz6_1
      try clear hfz6_10
      try clear hfz6_11
      try clear hfz6_12
      try clear hfz6_13
      try clear hfz6_14
      try clear hfz6_2
      try clear hfz6_3
      try clear hfz6_4
      try clear hfz6_5
      try clear hfz6_6
      try clear hfz6_7
      try clear hfz6_8
      try clear hfz6_9
      try clear hfz8_0
      try clear hfz8_1
      try clear hfz8_10
      try clear hfz8_11
      try clear hfz8_12
      try clear hfz8_13
      try clear hfz8_14
      try clear hfz8_2
      try clear hfz8_3
      try clear hfz8_4
      try clear hfz8_5
      try clear hfz8_6
      try clear hfz8_7
      try clear hfz8_8
      try clear hfz8_9
      obtain ⟨x4_1, x5_1, x6_1, rfl, rfl, rfl, HA, HK1, BK237, HB⟩ := hrel
      cases gk with
      | zero => exact absurd HA.out (by simp [rampartlaw16_EdgeLast.l0])
      | succ k1 =>
        have H := HA.out
        clear HA
        simp only [rampartlaw16_EdgeLast.l0] at H
        by_cases c11 : x6_1 < (l0_10.length : Int)
        · rw [if_pos c11] at H
          have c11b0 : decide (x6_1 < (l0_10.length : Int)) = true := decide_eq_true c11
          clear c11
          by_cases c12 : x4_1 = true
          · subst c12
            have H1 : (if 0 ≤ x6_1 then ((rampartref03_Gap.f a0_3 ((rd_T49 l0_10 x6_1).f1)).bind fun t242 => (if x5_1 = true then (if t242 > (-536870912) then (rampartlaw16_EdgeLast.l0 k1 t240 true (decide (t242 < 536870912)) (wrap64 (x6_1 + 1)) a0_0 a0_1 a0_2 a0_3 a0_4 a0_5 a0_6 a0_7 a0_8 a0_9 l0_10 a0_11 a0_12 a0_13 a0_14) else (rampartlaw16_EdgeLast.l0 k1 t240 true false (wrap64 (x6_1 + 1)) a0_0 a0_1 a0_2 a0_3 a0_4 a0_5 a0_6 a0_7 a0_8 a0_9 l0_10 a0_11 a0_12 a0_13 a0_14)) else (rampartlaw16_EdgeLast.l0 k1 t240 true false (wrap64 (x6_1 + 1)) a0_0 a0_1 a0_2 a0_3 a0_4 a0_5 a0_6 a0_7 a0_8 a0_9 l0_10 a0_11 a0_12 a0_13 a0_14))) else (none)) = some true := by rw [if_pos rfl] at H; exact H
            clear H
            have H := H1
            clear H1
            by_cases c13 : 0 ≤ x6_1
            · rw [if_pos c13] at H
              have c13b0 : decide (0 ≤ x6_1) = true := decide_eq_true c13
              clear c13
              replace H := Option.bind_eq_some_iff.mp H
              obtain ⟨t242, A140, H⟩ := H
              replace H : (if x5_1 = true then (if t242 > (-536870912) then (rampartlaw16_EdgeLast.l0 k1 t240 true (decide (t242 < 536870912)) (wrap64 (x6_1 + 1)) a0_0 a0_1 a0_2 a0_3 a0_4 a0_5 a0_6 a0_7 a0_8 a0_9 l0_10 a0_11 a0_12 a0_13 a0_14) else (rampartlaw16_EdgeLast.l0 k1 t240 true false (wrap64 (x6_1 + 1)) a0_0 a0_1 a0_2 a0_3 a0_4 a0_5 a0_6 a0_7 a0_8 a0_9 l0_10 a0_11 a0_12 a0_13 a0_14)) else (rampartlaw16_EdgeLast.l0 k1 t240 true false (wrap64 (x6_1 + 1)) a0_0 a0_1 a0_2 a0_3 a0_4 a0_5 a0_6 a0_7 a0_8 a0_9 l0_10 a0_11 a0_12 a0_13 a0_14)) = some true := H
              have A14 := Aside0.mk A140
              clear A140
              by_cases c15 : x5_1 = true
              · subst c15
                have H1 : (if t242 > (-536870912) then (rampartlaw16_EdgeLast.l0 k1 t240 true (decide (t242 < 536870912)) (wrap64 (x6_1 + 1)) a0_0 a0_1 a0_2 a0_3 a0_4 a0_5 a0_6 a0_7 a0_8 a0_9 l0_10 a0_11 a0_12 a0_13 a0_14) else (rampartlaw16_EdgeLast.l0 k1 t240 true false (wrap64 (x6_1 + 1)) a0_0 a0_1 a0_2 a0_3 a0_4 a0_5 a0_6 a0_7 a0_8 a0_9 l0_10 a0_11 a0_12 a0_13 a0_14)) = some true := by rw [if_pos rfl] at H; exact H
                clear H
                have H := H1
                clear H1
                by_cases c16 : t242 > (-536870912)
                · rw [if_pos c16] at H
                  have c16b0 : decide ((-536870912) < t242) = true := decide_eq_true c16
                  clear c16
                  have H' := Aside0.mk H
                  clear H
                  have hcz17_0 : wr.cell? ⟨gb237, 0, none⟩ = some (.int .i64 a0_0) := (blk_cell BK237.out 0).trans rfl
                  have hcz17_1 : wr.cell? ⟨gb237, 1, none⟩ = some (.int .i64 a0_1) := (blk_cell BK237.out 1).trans rfl
                  have hcz17_2 : wr.cell? ⟨gb237, 2, none⟩ = some (.int .u32 a0_2) := (blk_cell BK237.out 2).trans rfl
                  have hcz17_3 : wr.cell? ⟨gb237, 3, none⟩ = some (.int .u32 a0_3) := (blk_cell BK237.out 3).trans rfl
                  have hcz17_4 : wr.cell? ⟨gb237, 4, none⟩ = some (.int .i64 a0_4) := (blk_cell BK237.out 4).trans rfl
                  have hcz17_5 : wr.cell? ⟨gb237, 5, none⟩ = some (.int .i64 a0_5) := (blk_cell BK237.out 5).trans rfl
                  have hcz17_6 : wr.cell? ⟨gb237, 6, none⟩ = some (.int .i64 a0_6) := (blk_cell BK237.out 6).trans rfl
                  have hcz17_7 : wr.cell? ⟨gb237, 7, none⟩ = some (.int .i64 a0_7) := (blk_cell BK237.out 7).trans rfl
                  have hcz17_8 : wr.cell? ⟨gb237, 8, none⟩ = some (.int .i64 a0_8) := (blk_cell BK237.out 8).trans rfl
                  have hcz17_9 : wr.cell? ⟨gb237, 9, none⟩ = some (.bool a0_9) := (blk_cell BK237.out 9).trans rfl
                  have hcz17_10 : wr.cell? ⟨gb237, 10, none⟩ = some (.slice A0_10 l0_10.length c0_10) := (blk_cell BK237.out 10).trans rfl
                  have hcz17_11 : wr.cell? ⟨gb237, 11, none⟩ = some (.bool a0_11) := (blk_cell BK237.out 11).trans rfl
                  have hcz17_12 : wr.cell? ⟨gb237, 12, none⟩ = some (.int .u32 a0_12) := (blk_cell BK237.out 12).trans rfl
                  have hcz17_13 : wr.cell? ⟨gb237, 13, none⟩ = some (.int .u32 a0_13) := (blk_cell BK237.out 13).trans rfl
                  have hcz17_14 : wr.cell? ⟨gb237, 14, none⟩ = some (.string a0_14) := (blk_cell BK237.out 14).trans rfl
                  have hfz17_0 := blk_frozen BK237.out 0
                  have hfz17_1 := blk_frozen BK237.out 1
                  have hfz17_2 := blk_frozen BK237.out 2
                  have hfz17_3 := blk_frozen BK237.out 3
                  have hfz17_4 := blk_frozen BK237.out 4
                  have hfz17_5 := blk_frozen BK237.out 5
                  have hfz17_6 := blk_frozen BK237.out 6
                  have hfz17_7 := blk_frozen BK237.out 7
                  have hfz17_8 := blk_frozen BK237.out 8
                  have hfz17_9 := blk_frozen BK237.out 9
                  have hfz17_10 := blk_frozen BK237.out 10
                  have hfz17_11 := blk_frozen BK237.out 11
                  have hfz17_12 := blk_frozen BK237.out 12
                  have hfz17_13 := blk_frozen BK237.out 13
                  have hfz17_14 := blk_frozen BK237.out 14
                  have p241 : 0 ≤ (x6_1 : Int) := of_decide_eq_true (by first | (with_reducible assumption) | assumption)
                  have q241 : x6_1 < (l0_10.length : Int) := of_decide_eq_true (by first | (with_reducible assumption) | assumption)
                  obtain ⟨ad241, e241, hx241_0, hx241_1⟩ := at_T49 HR0_10.out x6_1 p241 q241
                  cases e241
                  replace hx241_0 := (HB.out.cell (World.block_lt_of_cell? w _ hx241_0)).trans hx241_0
                  replace hx241_1 := (HB.out.cell (World.block_lt_of_cell? w _ hx241_1)).trans hx241_1
                  replace p241 := eq_true p241
                  replace q241 := eq_true q241
                  go_wp2_with (first | (go_at_call 15; (with_reducible refine (rampartref03_Gap.calls a0_3 ((rd_T49 l0_10 x6_1).f1) t242 _ A14.out).mono ?_); rintro e w' ⟨rfl, ⟨nd, rfl⟩⟩; (try first | exact ⟨rfl, _, World.drewN_drewN _ _ _⟩ | exact ⟨rfl, _, Eq.trans (World.drewN_drewN _ _ _) (congrArg (World.drewN _) (Nat.add_assoc _ _ _))⟩)))
                  repeat (go_quiet (first | (go_at_call 15; (with_reducible refine (rampartref03_Gap.calls a0_3 ((rd_T49 l0_10 x6_1).f1) t242 _ A14.out).mono ?_); rintro e w' ⟨rfl, ⟨nd, rfl⟩⟩; (try first | exact ⟨rfl, _, World.drewN_drewN _ _ _⟩ | exact ⟨rfl, _, Eq.trans (World.drewN_drewN _ _ _) (congrArg (World.drewN _) (Nat.add_assoc _ _ _))⟩))); try go_wp2_with (first | (go_at_call 15; (with_reducible refine (rampartref03_Gap.calls a0_3 ((rd_T49 l0_10 x6_1).f1) t242 _ A14.out).mono ?_); rintro e w' ⟨rfl, ⟨nd, rfl⟩⟩; (try first | exact ⟨rfl, _, World.drewN_drewN _ _ _⟩ | exact ⟨rfl, _, Eq.trans (World.drewN_drewN _ _ _) (congrArg (World.drewN _) (Nat.add_assoc _ _ _))⟩))))
                  go_roundg k1
                  case measure => have := HK1.out; omega
                  case rel => exact ⟨(true), (decide (t242 < 536870912)), (wrap64 (x6_1 + 1)), (by first | rfl | (simp; done) | (simp [*]; done)), (by first | rfl | (simp; done) | (simp [*]; done)), (by first | rfl | (simp; done) | (simp [*]; done)), H', ⟨by have := HK1.out; omega⟩, ⟨by (with_reducible repeat (first | refine blk_drewN ?_ _ | refine blk_drew ?_ | refine blk_alloc ?_ _)); exact BK237.out⟩, ⟨by repeat (first | (with_reducible first | exact HB.out | apply below_alloc | apply pw_below_drewN | apply below_drew1 | refine below_set ?_ GE237.out) | exact HB.out)⟩⟩
                · rw [if_neg c16] at H
                  have c16b0 : decide ((-536870912) < t242) = false := decide_eq_false c16
                  clear c16
                  have H' := Aside0.mk H
                  clear H
                  have hcz18_0 : wr.cell? ⟨gb237, 0, none⟩ = some (.int .i64 a0_0) := (blk_cell BK237.out 0).trans rfl
                  have hcz18_1 : wr.cell? ⟨gb237, 1, none⟩ = some (.int .i64 a0_1) := (blk_cell BK237.out 1).trans rfl
                  have hcz18_2 : wr.cell? ⟨gb237, 2, none⟩ = some (.int .u32 a0_2) := (blk_cell BK237.out 2).trans rfl
                  have hcz18_3 : wr.cell? ⟨gb237, 3, none⟩ = some (.int .u32 a0_3) := (blk_cell BK237.out 3).trans rfl
                  have hcz18_4 : wr.cell? ⟨gb237, 4, none⟩ = some (.int .i64 a0_4) := (blk_cell BK237.out 4).trans rfl
                  have hcz18_5 : wr.cell? ⟨gb237, 5, none⟩ = some (.int .i64 a0_5) := (blk_cell BK237.out 5).trans rfl
                  have hcz18_6 : wr.cell? ⟨gb237, 6, none⟩ = some (.int .i64 a0_6) := (blk_cell BK237.out 6).trans rfl
                  have hcz18_7 : wr.cell? ⟨gb237, 7, none⟩ = some (.int .i64 a0_7) := (blk_cell BK237.out 7).trans rfl
                  have hcz18_8 : wr.cell? ⟨gb237, 8, none⟩ = some (.int .i64 a0_8) := (blk_cell BK237.out 8).trans rfl
                  have hcz18_9 : wr.cell? ⟨gb237, 9, none⟩ = some (.bool a0_9) := (blk_cell BK237.out 9).trans rfl
                  have hcz18_10 : wr.cell? ⟨gb237, 10, none⟩ = some (.slice A0_10 l0_10.length c0_10) := (blk_cell BK237.out 10).trans rfl
                  have hcz18_11 : wr.cell? ⟨gb237, 11, none⟩ = some (.bool a0_11) := (blk_cell BK237.out 11).trans rfl
                  have hcz18_12 : wr.cell? ⟨gb237, 12, none⟩ = some (.int .u32 a0_12) := (blk_cell BK237.out 12).trans rfl
                  have hcz18_13 : wr.cell? ⟨gb237, 13, none⟩ = some (.int .u32 a0_13) := (blk_cell BK237.out 13).trans rfl
                  have hcz18_14 : wr.cell? ⟨gb237, 14, none⟩ = some (.string a0_14) := (blk_cell BK237.out 14).trans rfl
                  have hfz18_0 := blk_frozen BK237.out 0
                  have hfz18_1 := blk_frozen BK237.out 1
                  have hfz18_2 := blk_frozen BK237.out 2
                  have hfz18_3 := blk_frozen BK237.out 3
                  have hfz18_4 := blk_frozen BK237.out 4
                  have hfz18_5 := blk_frozen BK237.out 5
                  have hfz18_6 := blk_frozen BK237.out 6
                  have hfz18_7 := blk_frozen BK237.out 7
                  have hfz18_8 := blk_frozen BK237.out 8
                  have hfz18_9 := blk_frozen BK237.out 9
                  have hfz18_10 := blk_frozen BK237.out 10
                  have hfz18_11 := blk_frozen BK237.out 11
                  have hfz18_12 := blk_frozen BK237.out 12
                  have hfz18_13 := blk_frozen BK237.out 13
                  have hfz18_14 := blk_frozen BK237.out 14
                  have p241 : 0 ≤ (x6_1 : Int) := of_decide_eq_true (by first | (with_reducible assumption) | assumption)
                  have q241 : x6_1 < (l0_10.length : Int) := of_decide_eq_true (by first | (with_reducible assumption) | assumption)
                  obtain ⟨ad241, e241, hx241_0, hx241_1⟩ := at_T49 HR0_10.out x6_1 p241 q241
                  cases e241
                  replace hx241_0 := (HB.out.cell (World.block_lt_of_cell? w _ hx241_0)).trans hx241_0
                  replace hx241_1 := (HB.out.cell (World.block_lt_of_cell? w _ hx241_1)).trans hx241_1
                  replace p241 := eq_true p241
                  replace q241 := eq_true q241
                  go_wp2_with (first | (go_at_call 15; (with_reducible refine (rampartref03_Gap.calls a0_3 ((rd_T49 l0_10 x6_1).f1) t242 _ A14.out).mono ?_); rintro e w' ⟨rfl, ⟨nd, rfl⟩⟩; (try first | exact ⟨rfl, _, World.drewN_drewN _ _ _⟩ | exact ⟨rfl, _, Eq.trans (World.drewN_drewN _ _ _) (congrArg (World.drewN _) (Nat.add_assoc _ _ _))⟩)))
                  repeat (go_quiet (first | (go_at_call 15; (with_reducible refine (rampartref03_Gap.calls a0_3 ((rd_T49 l0_10 x6_1).f1) t242 _ A14.out).mono ?_); rintro e w' ⟨rfl, ⟨nd, rfl⟩⟩; (try first | exact ⟨rfl, _, World.drewN_drewN _ _ _⟩ | exact ⟨rfl, _, Eq.trans (World.drewN_drewN _ _ _) (congrArg (World.drewN _) (Nat.add_assoc _ _ _))⟩))); try go_wp2_with (first | (go_at_call 15; (with_reducible refine (rampartref03_Gap.calls a0_3 ((rd_T49 l0_10 x6_1).f1) t242 _ A14.out).mono ?_); rintro e w' ⟨rfl, ⟨nd, rfl⟩⟩; (try first | exact ⟨rfl, _, World.drewN_drewN _ _ _⟩ | exact ⟨rfl, _, Eq.trans (World.drewN_drewN _ _ _) (congrArg (World.drewN _) (Nat.add_assoc _ _ _))⟩))))
                  go_roundg k1
                  case measure => have := HK1.out; omega
                  case rel => exact ⟨(true), (false), (wrap64 (x6_1 + 1)), (by first | rfl | (simp; done) | (simp [*]; done)), (by first | rfl | (simp; done) | (simp [*]; done)), (by first | rfl | (simp; done) | (simp [*]; done)), H', ⟨by have := HK1.out; omega⟩, ⟨by (with_reducible repeat (first | refine blk_drewN ?_ _ | refine blk_drew ?_ | refine blk_alloc ?_ _)); exact BK237.out⟩, ⟨by repeat (first | (with_reducible first | exact HB.out | apply below_alloc | apply pw_below_drewN | apply below_drew1 | refine below_set ?_ GE237.out) | exact HB.out)⟩⟩
              · replace c15 := Bool.eq_false_iff.mpr c15
                subst c15
                have H1 : (rampartlaw16_EdgeLast.l0 k1 t240 true false (wrap64 (x6_1 + 1)) a0_0 a0_1 a0_2 a0_3 a0_4 a0_5 a0_6 a0_7 a0_8 a0_9 l0_10 a0_11 a0_12 a0_13 a0_14) = some true := by rw [if_neg (show ¬ (false = true) by decide)] at H; exact H
                clear H
                have H := H1
                clear H1
                have H' := Aside0.mk H
                clear H
                have hcz19_0 : wr.cell? ⟨gb237, 0, none⟩ = some (.int .i64 a0_0) := (blk_cell BK237.out 0).trans rfl
                have hcz19_1 : wr.cell? ⟨gb237, 1, none⟩ = some (.int .i64 a0_1) := (blk_cell BK237.out 1).trans rfl
                have hcz19_2 : wr.cell? ⟨gb237, 2, none⟩ = some (.int .u32 a0_2) := (blk_cell BK237.out 2).trans rfl
                have hcz19_3 : wr.cell? ⟨gb237, 3, none⟩ = some (.int .u32 a0_3) := (blk_cell BK237.out 3).trans rfl
                have hcz19_4 : wr.cell? ⟨gb237, 4, none⟩ = some (.int .i64 a0_4) := (blk_cell BK237.out 4).trans rfl
                have hcz19_5 : wr.cell? ⟨gb237, 5, none⟩ = some (.int .i64 a0_5) := (blk_cell BK237.out 5).trans rfl
                have hcz19_6 : wr.cell? ⟨gb237, 6, none⟩ = some (.int .i64 a0_6) := (blk_cell BK237.out 6).trans rfl
                have hcz19_7 : wr.cell? ⟨gb237, 7, none⟩ = some (.int .i64 a0_7) := (blk_cell BK237.out 7).trans rfl
                have hcz19_8 : wr.cell? ⟨gb237, 8, none⟩ = some (.int .i64 a0_8) := (blk_cell BK237.out 8).trans rfl
                have hcz19_9 : wr.cell? ⟨gb237, 9, none⟩ = some (.bool a0_9) := (blk_cell BK237.out 9).trans rfl
                have hcz19_10 : wr.cell? ⟨gb237, 10, none⟩ = some (.slice A0_10 l0_10.length c0_10) := (blk_cell BK237.out 10).trans rfl
                have hcz19_11 : wr.cell? ⟨gb237, 11, none⟩ = some (.bool a0_11) := (blk_cell BK237.out 11).trans rfl
                have hcz19_12 : wr.cell? ⟨gb237, 12, none⟩ = some (.int .u32 a0_12) := (blk_cell BK237.out 12).trans rfl
                have hcz19_13 : wr.cell? ⟨gb237, 13, none⟩ = some (.int .u32 a0_13) := (blk_cell BK237.out 13).trans rfl
                have hcz19_14 : wr.cell? ⟨gb237, 14, none⟩ = some (.string a0_14) := (blk_cell BK237.out 14).trans rfl
                have hfz19_0 := blk_frozen BK237.out 0
                have hfz19_1 := blk_frozen BK237.out 1
                have hfz19_2 := blk_frozen BK237.out 2
                have hfz19_3 := blk_frozen BK237.out 3
                have hfz19_4 := blk_frozen BK237.out 4
                have hfz19_5 := blk_frozen BK237.out 5
                have hfz19_6 := blk_frozen BK237.out 6
                have hfz19_7 := blk_frozen BK237.out 7
                have hfz19_8 := blk_frozen BK237.out 8
                have hfz19_9 := blk_frozen BK237.out 9
                have hfz19_10 := blk_frozen BK237.out 10
                have hfz19_11 := blk_frozen BK237.out 11
                have hfz19_12 := blk_frozen BK237.out 12
                have hfz19_13 := blk_frozen BK237.out 13
                have hfz19_14 := blk_frozen BK237.out 14
                have p241 : 0 ≤ (x6_1 : Int) := of_decide_eq_true (by first | (with_reducible assumption) | assumption)
                have q241 : x6_1 < (l0_10.length : Int) := of_decide_eq_true (by first | (with_reducible assumption) | assumption)
                obtain ⟨ad241, e241, hx241_0, hx241_1⟩ := at_T49 HR0_10.out x6_1 p241 q241
                cases e241
                replace hx241_0 := (HB.out.cell (World.block_lt_of_cell? w _ hx241_0)).trans hx241_0
                replace hx241_1 := (HB.out.cell (World.block_lt_of_cell? w _ hx241_1)).trans hx241_1
                replace p241 := eq_true p241
                replace q241 := eq_true q241
                go_wp2_with (first | (go_at_call 15; (with_reducible refine (rampartref03_Gap.calls a0_3 ((rd_T49 l0_10 x6_1).f1) t242 _ A14.out).mono ?_); rintro e w' ⟨rfl, ⟨nd, rfl⟩⟩; (try first | exact ⟨rfl, _, World.drewN_drewN _ _ _⟩ | exact ⟨rfl, _, Eq.trans (World.drewN_drewN _ _ _) (congrArg (World.drewN _) (Nat.add_assoc _ _ _))⟩)))
                repeat (go_quiet (first | (go_at_call 15; (with_reducible refine (rampartref03_Gap.calls a0_3 ((rd_T49 l0_10 x6_1).f1) t242 _ A14.out).mono ?_); rintro e w' ⟨rfl, ⟨nd, rfl⟩⟩; (try first | exact ⟨rfl, _, World.drewN_drewN _ _ _⟩ | exact ⟨rfl, _, Eq.trans (World.drewN_drewN _ _ _) (congrArg (World.drewN _) (Nat.add_assoc _ _ _))⟩))); try go_wp2_with (first | (go_at_call 15; (with_reducible refine (rampartref03_Gap.calls a0_3 ((rd_T49 l0_10 x6_1).f1) t242 _ A14.out).mono ?_); rintro e w' ⟨rfl, ⟨nd, rfl⟩⟩; (try first | exact ⟨rfl, _, World.drewN_drewN _ _ _⟩ | exact ⟨rfl, _, Eq.trans (World.drewN_drewN _ _ _) (congrArg (World.drewN _) (Nat.add_assoc _ _ _))⟩))))
                go_roundg k1
                case measure => have := HK1.out; omega
                case rel => exact ⟨(true), (false), (wrap64 (x6_1 + 1)), (by first | rfl | (simp; done) | (simp [*]; done)), (by first | rfl | (simp; done) | (simp [*]; done)), (by first | rfl | (simp; done) | (simp [*]; done)), H', ⟨by have := HK1.out; omega⟩, ⟨by (with_reducible repeat (first | refine blk_drewN ?_ _ | refine blk_drew ?_ | refine blk_alloc ?_ _)); exact BK237.out⟩, ⟨by repeat (first | (with_reducible first | exact HB.out | apply below_alloc | apply pw_below_drewN | apply below_drew1 | refine below_set ?_ GE237.out) | exact HB.out)⟩⟩
            · rw [if_neg c13] at H
              exact absurd H (by simp)
          · replace c12 := Bool.eq_false_iff.mpr c12
            subst c12
            have H1 : (if 0 ≤ x6_1 then ((rampartref03_Gap.f a0_3 ((rd_T49 l0_10 x6_1).f1)).bind fun t245 => (if x5_1 = true then (if t245 > (-536870912) then (rampartlaw16_EdgeLast.l0 k1 t240 (t240 == ((rd_T49 l0_10 x6_1).f1)) (decide (t245 < 536870912)) (wrap64 (x6_1 + 1)) a0_0 a0_1 a0_2 a0_3 a0_4 a0_5 a0_6 a0_7 a0_8 a0_9 l0_10 a0_11 a0_12 a0_13 a0_14) else (rampartlaw16_EdgeLast.l0 k1 t240 (t240 == ((rd_T49 l0_10 x6_1).f1)) false (wrap64 (x6_1 + 1)) a0_0 a0_1 a0_2 a0_3 a0_4 a0_5 a0_6 a0_7 a0_8 a0_9 l0_10 a0_11 a0_12 a0_13 a0_14)) else (rampartlaw16_EdgeLast.l0 k1 t240 (t240 == ((rd_T49 l0_10 x6_1).f1)) false (wrap64 (x6_1 + 1)) a0_0 a0_1 a0_2 a0_3 a0_4 a0_5 a0_6 a0_7 a0_8 a0_9 l0_10 a0_11 a0_12 a0_13 a0_14))) else (none)) = some true := by rw [if_neg (show ¬ (false = true) by decide)] at H; exact H
            clear H
            have H := H1
            clear H1
            by_cases c20 : 0 ≤ x6_1
            · rw [if_pos c20] at H
              have c20b0 : decide (0 ≤ x6_1) = true := decide_eq_true c20
              clear c20
              replace H := Option.bind_eq_some_iff.mp H
              obtain ⟨t245, A210, H⟩ := H
              replace H : (if x5_1 = true then (if t245 > (-536870912) then (rampartlaw16_EdgeLast.l0 k1 t240 (t240 == ((rd_T49 l0_10 x6_1).f1)) (decide (t245 < 536870912)) (wrap64 (x6_1 + 1)) a0_0 a0_1 a0_2 a0_3 a0_4 a0_5 a0_6 a0_7 a0_8 a0_9 l0_10 a0_11 a0_12 a0_13 a0_14) else (rampartlaw16_EdgeLast.l0 k1 t240 (t240 == ((rd_T49 l0_10 x6_1).f1)) false (wrap64 (x6_1 + 1)) a0_0 a0_1 a0_2 a0_3 a0_4 a0_5 a0_6 a0_7 a0_8 a0_9 l0_10 a0_11 a0_12 a0_13 a0_14)) else (rampartlaw16_EdgeLast.l0 k1 t240 (t240 == ((rd_T49 l0_10 x6_1).f1)) false (wrap64 (x6_1 + 1)) a0_0 a0_1 a0_2 a0_3 a0_4 a0_5 a0_6 a0_7 a0_8 a0_9 l0_10 a0_11 a0_12 a0_13 a0_14)) = some true := H
              have A21 := Aside0.mk A210
              clear A210
              by_cases c22 : x5_1 = true
              · subst c22
                have H1 : (if t245 > (-536870912) then (rampartlaw16_EdgeLast.l0 k1 t240 (t240 == ((rd_T49 l0_10 x6_1).f1)) (decide (t245 < 536870912)) (wrap64 (x6_1 + 1)) a0_0 a0_1 a0_2 a0_3 a0_4 a0_5 a0_6 a0_7 a0_8 a0_9 l0_10 a0_11 a0_12 a0_13 a0_14) else (rampartlaw16_EdgeLast.l0 k1 t240 (t240 == ((rd_T49 l0_10 x6_1).f1)) false (wrap64 (x6_1 + 1)) a0_0 a0_1 a0_2 a0_3 a0_4 a0_5 a0_6 a0_7 a0_8 a0_9 l0_10 a0_11 a0_12 a0_13 a0_14)) = some true := by rw [if_pos rfl] at H; exact H
                clear H
                have H := H1
                clear H1
                by_cases c23 : t245 > (-536870912)
                · rw [if_pos c23] at H
                  have c23b0 : decide ((-536870912) < t245) = true := decide_eq_true c23
                  clear c23
                  have H' := Aside0.mk H
                  clear H
                  have hcz24_0 : wr.cell? ⟨gb237, 0, none⟩ = some (.int .i64 a0_0) := (blk_cell BK237.out 0).trans rfl
                  have hcz24_1 : wr.cell? ⟨gb237, 1, none⟩ = some (.int .i64 a0_1) := (blk_cell BK237.out 1).trans rfl
                  have hcz24_2 : wr.cell? ⟨gb237, 2, none⟩ = some (.int .u32 a0_2) := (blk_cell BK237.out 2).trans rfl
                  have hcz24_3 : wr.cell? ⟨gb237, 3, none⟩ = some (.int .u32 a0_3) := (blk_cell BK237.out 3).trans rfl
                  have hcz24_4 : wr.cell? ⟨gb237, 4, none⟩ = some (.int .i64 a0_4) := (blk_cell BK237.out 4).trans rfl
                  have hcz24_5 : wr.cell? ⟨gb237, 5, none⟩ = some (.int .i64 a0_5) := (blk_cell BK237.out 5).trans rfl
                  have hcz24_6 : wr.cell? ⟨gb237, 6, none⟩ = some (.int .i64 a0_6) := (blk_cell BK237.out 6).trans rfl
                  have hcz24_7 : wr.cell? ⟨gb237, 7, none⟩ = some (.int .i64 a0_7) := (blk_cell BK237.out 7).trans rfl
                  have hcz24_8 : wr.cell? ⟨gb237, 8, none⟩ = some (.int .i64 a0_8) := (blk_cell BK237.out 8).trans rfl
                  have hcz24_9 : wr.cell? ⟨gb237, 9, none⟩ = some (.bool a0_9) := (blk_cell BK237.out 9).trans rfl
                  have hcz24_10 : wr.cell? ⟨gb237, 10, none⟩ = some (.slice A0_10 l0_10.length c0_10) := (blk_cell BK237.out 10).trans rfl
                  have hcz24_11 : wr.cell? ⟨gb237, 11, none⟩ = some (.bool a0_11) := (blk_cell BK237.out 11).trans rfl
                  have hcz24_12 : wr.cell? ⟨gb237, 12, none⟩ = some (.int .u32 a0_12) := (blk_cell BK237.out 12).trans rfl
                  have hcz24_13 : wr.cell? ⟨gb237, 13, none⟩ = some (.int .u32 a0_13) := (blk_cell BK237.out 13).trans rfl
                  have hcz24_14 : wr.cell? ⟨gb237, 14, none⟩ = some (.string a0_14) := (blk_cell BK237.out 14).trans rfl
                  have hfz24_0 := blk_frozen BK237.out 0
                  have hfz24_1 := blk_frozen BK237.out 1
                  have hfz24_2 := blk_frozen BK237.out 2
                  have hfz24_3 := blk_frozen BK237.out 3
                  have hfz24_4 := blk_frozen BK237.out 4
                  have hfz24_5 := blk_frozen BK237.out 5
                  have hfz24_6 := blk_frozen BK237.out 6
                  have hfz24_7 := blk_frozen BK237.out 7
                  have hfz24_8 := blk_frozen BK237.out 8
                  have hfz24_9 := blk_frozen BK237.out 9
                  have hfz24_10 := blk_frozen BK237.out 10
                  have hfz24_11 := blk_frozen BK237.out 11
                  have hfz24_12 := blk_frozen BK237.out 12
                  have hfz24_13 := blk_frozen BK237.out 13
                  have hfz24_14 := blk_frozen BK237.out 14
                  have p243 : 0 ≤ (x6_1 : Int) := of_decide_eq_true (by first | (with_reducible assumption) | assumption)
                  have q243 : x6_1 < (l0_10.length : Int) := of_decide_eq_true (by first | (with_reducible assumption) | assumption)
                  obtain ⟨ad243, e243, hx243_0, hx243_1⟩ := at_T49 HR0_10.out x6_1 p243 q243
                  cases e243
                  replace hx243_0 := (HB.out.cell (World.block_lt_of_cell? w _ hx243_0)).trans hx243_0
                  replace hx243_1 := (HB.out.cell (World.block_lt_of_cell? w _ hx243_1)).trans hx243_1
                  replace p243 := eq_true p243
                  replace q243 := eq_true q243
                  have p244 : 0 ≤ (x6_1 : Int) := of_decide_eq_true (by first | (with_reducible assumption) | assumption)
                  have q244 : x6_1 < (l0_10.length : Int) := of_decide_eq_true (by first | (with_reducible assumption) | assumption)
                  obtain ⟨ad244, e244, hx244_0, hx244_1⟩ := at_T49 HR0_10.out x6_1 p244 q244
                  obtain rfl : ad243 = ad244 := (by injection e244)
                  replace hx244_0 := (HB.out.cell (World.block_lt_of_cell? w _ hx244_0)).trans hx244_0
                  replace hx244_1 := (HB.out.cell (World.block_lt_of_cell? w _ hx244_1)).trans hx244_1
                  replace p244 := eq_true p244
                  replace q244 := eq_true q244
                  go_wp2_with (first | (go_at_call 15; (with_reducible refine (rampartref03_Gap.calls a0_3 ((rd_T49 l0_10 x6_1).f1) t245 _ A21.out).mono ?_); rintro e w' ⟨rfl, ⟨nd, rfl⟩⟩; (try first | exact ⟨rfl, _, World.drewN_drewN _ _ _⟩ | exact ⟨rfl, _, Eq.trans (World.drewN_drewN _ _ _) (congrArg (World.drewN _) (Nat.add_assoc _ _ _))⟩)))
                  repeat (go_quiet (first | (go_at_call 15; (with_reducible refine (rampartref03_Gap.calls a0_3 ((rd_T49 l0_10 x6_1).f1) t245 _ A21.out).mono ?_); rintro e w' ⟨rfl, ⟨nd, rfl⟩⟩; (try first | exact ⟨rfl, _, World.drewN_drewN _ _ _⟩ | exact ⟨rfl, _, Eq.trans (World.drewN_drewN _ _ _) (congrArg (World.drewN _) (Nat.add_assoc _ _ _))⟩))); try go_wp2_with (first | (go_at_call 15; (with_reducible refine (rampartref03_Gap.calls a0_3 ((rd_T49 l0_10 x6_1).f1) t245 _ A21.out).mono ?_); rintro e w' ⟨rfl, ⟨nd, rfl⟩⟩; (try first | exact ⟨rfl, _, World.drewN_drewN _ _ _⟩ | exact ⟨rfl, _, Eq.trans (World.drewN_drewN _ _ _) (congrArg (World.drewN _) (Nat.add_assoc _ _ _))⟩))))
                  go_roundg k1
                  case measure => have := HK1.out; omega
                  case rel => exact ⟨((t240 == ((rd_T49 l0_10 x6_1).f1))), (decide (t245 < 536870912)), (wrap64 (x6_1 + 1)), (by first | rfl | (simp; done) | (simp [*]; done)), (by first | rfl | (simp; done) | (simp [*]; done)), (by first | rfl | (simp; done) | (simp [*]; done)), H', ⟨by have := HK1.out; omega⟩, ⟨by (with_reducible repeat (first | refine blk_drewN ?_ _ | refine blk_drew ?_ | refine blk_alloc ?_ _)); exact BK237.out⟩, ⟨by repeat (first | (with_reducible first | exact HB.out | apply below_alloc | apply pw_below_drewN | apply below_drew1 | refine below_set ?_ GE237.out) | exact HB.out)⟩⟩
                · rw [if_neg c23] at H
                  have c23b0 : decide ((-536870912) < t245) = false := decide_eq_false c23
                  clear c23
                  have H' := Aside0.mk H
                  clear H
                  have hcz25_0 : wr.cell? ⟨gb237, 0, none⟩ = some (.int .i64 a0_0) := (blk_cell BK237.out 0).trans rfl
                  have hcz25_1 : wr.cell? ⟨gb237, 1, none⟩ = some (.int .i64 a0_1) := (blk_cell BK237.out 1).trans rfl
                  have hcz25_2 : wr.cell? ⟨gb237, 2, none⟩ = some (.int .u32 a0_2) := (blk_cell BK237.out 2).trans rfl
                  have hcz25_3 : wr.cell? ⟨gb237, 3, none⟩ = some (.int .u32 a0_3) := (blk_cell BK237.out 3).trans rfl
                  have hcz25_4 : wr.cell? ⟨gb237, 4, none⟩ = some (.int .i64 a0_4) := (blk_cell BK237.out 4).trans rfl
                  have hcz25_5 : wr.cell? ⟨gb237, 5, none⟩ = some (.int .i64 a0_5) := (blk_cell BK237.out 5).trans rfl
                  have hcz25_6 : wr.cell? ⟨gb237, 6, none⟩ = some (.int .i64 a0_6) := (blk_cell BK237.out 6).trans rfl
                  have hcz25_7 : wr.cell? ⟨gb237, 7, none⟩ = some (.int .i64 a0_7) := (blk_cell BK237.out 7).trans rfl
                  have hcz25_8 : wr.cell? ⟨gb237, 8, none⟩ = some (.int .i64 a0_8) := (blk_cell BK237.out 8).trans rfl
                  have hcz25_9 : wr.cell? ⟨gb237, 9, none⟩ = some (.bool a0_9) := (blk_cell BK237.out 9).trans rfl
                  have hcz25_10 : wr.cell? ⟨gb237, 10, none⟩ = some (.slice A0_10 l0_10.length c0_10) := (blk_cell BK237.out 10).trans rfl
                  have hcz25_11 : wr.cell? ⟨gb237, 11, none⟩ = some (.bool a0_11) := (blk_cell BK237.out 11).trans rfl
                  have hcz25_12 : wr.cell? ⟨gb237, 12, none⟩ = some (.int .u32 a0_12) := (blk_cell BK237.out 12).trans rfl
                  have hcz25_13 : wr.cell? ⟨gb237, 13, none⟩ = some (.int .u32 a0_13) := (blk_cell BK237.out 13).trans rfl
                  have hcz25_14 : wr.cell? ⟨gb237, 14, none⟩ = some (.string a0_14) := (blk_cell BK237.out 14).trans rfl
                  have hfz25_0 := blk_frozen BK237.out 0
                  have hfz25_1 := blk_frozen BK237.out 1
                  have hfz25_2 := blk_frozen BK237.out 2
                  have hfz25_3 := blk_frozen BK237.out 3
                  have hfz25_4 := blk_frozen BK237.out 4
                  have hfz25_5 := blk_frozen BK237.out 5
                  have hfz25_6 := blk_frozen BK237.out 6
                  have hfz25_7 := blk_frozen BK237.out 7
                  have hfz25_8 := blk_frozen BK237.out 8
                  have hfz25_9 := blk_frozen BK237.out 9
                  have hfz25_10 := blk_frozen BK237.out 10
                  have hfz25_11 := blk_frozen BK237.out 11
                  have hfz25_12 := blk_frozen BK237.out 12
                  have hfz25_13 := blk_frozen BK237.out 13
                  have hfz25_14 := blk_frozen BK237.out 14
                  have p243 : 0 ≤ (x6_1 : Int) := of_decide_eq_true (by first | (with_reducible assumption) | assumption)
                  have q243 : x6_1 < (l0_10.length : Int) := of_decide_eq_true (by first | (with_reducible assumption) | assumption)
                  obtain ⟨ad243, e243, hx243_0, hx243_1⟩ := at_T49 HR0_10.out x6_1 p243 q243
                  cases e243
                  replace hx243_0 := (HB.out.cell (World.block_lt_of_cell? w _ hx243_0)).trans hx243_0
                  replace hx243_1 := (HB.out.cell (World.block_lt_of_cell? w _ hx243_1)).trans hx243_1
                  replace p243 := eq_true p243
                  replace q243 := eq_true q243
                  have p244 : 0 ≤ (x6_1 : Int) := of_decide_eq_true (by first | (with_reducible assumption) | assumption)
                  have q244 : x6_1 < (l0_10.length : Int) := of_decide_eq_true (by first | (with_reducible assumption) | assumption)
                  obtain ⟨ad244, e244, hx244_0, hx244_1⟩ := at_T49 HR0_10.out x6_1 p244 q244
                  obtain rfl : ad243 = ad244 := (by injection e244)
                  replace hx244_0 := (HB.out.cell (World.block_lt_of_cell? w _ hx244_0)).trans hx244_0
                  replace hx244_1 := (HB.out.cell (World.block_lt_of_cell? w _ hx244_1)).trans hx244_1
                  replace p244 := eq_true p244
                  replace q244 := eq_true q244
                  go_wp2_with (first | (go_at_call 15; (with_reducible refine (rampartref03_Gap.calls a0_3 ((rd_T49 l0_10 x6_1).f1) t245 _ A21.out).mono ?_); rintro e w' ⟨rfl, ⟨nd, rfl⟩⟩; (try first | exact ⟨rfl, _, World.drewN_drewN _ _ _⟩ | exact ⟨rfl, _, Eq.trans (World.drewN_drewN _ _ _) (congrArg (World.drewN _) (Nat.add_assoc _ _ _))⟩)))
                  repeat (go_quiet (first | (go_at_call 15; (with_reducible refine (rampartref03_Gap.calls a0_3 ((rd_T49 l0_10 x6_1).f1) t245 _ A21.out).mono ?_); rintro e w' ⟨rfl, ⟨nd, rfl⟩⟩; (try first | exact ⟨rfl, _, World.drewN_drewN _ _ _⟩ | exact ⟨rfl, _, Eq.trans (World.drewN_drewN _ _ _) (congrArg (World.drewN _) (Nat.add_assoc _ _ _))⟩))); try go_wp2_with (first | (go_at_call 15; (with_reducible refine (rampartref03_Gap.calls a0_3 ((rd_T49 l0_10 x6_1).f1) t245 _ A21.out).mono ?_); rintro e w' ⟨rfl, ⟨nd, rfl⟩⟩; (try first | exact ⟨rfl, _, World.drewN_drewN _ _ _⟩ | exact ⟨rfl, _, Eq.trans (World.drewN_drewN _ _ _) (congrArg (World.drewN _) (Nat.add_assoc _ _ _))⟩))))
                  go_roundg k1
                  case measure => have := HK1.out; omega
                  case rel => exact ⟨((t240 == ((rd_T49 l0_10 x6_1).f1))), (false), (wrap64 (x6_1 + 1)), (by first | rfl | (simp; done) | (simp [*]; done)), (by first | rfl | (simp; done) | (simp [*]; done)), (by first | rfl | (simp; done) | (simp [*]; done)), H', ⟨by have := HK1.out; omega⟩, ⟨by (with_reducible repeat (first | refine blk_drewN ?_ _ | refine blk_drew ?_ | refine blk_alloc ?_ _)); exact BK237.out⟩, ⟨by repeat (first | (with_reducible first | exact HB.out | apply below_alloc | apply pw_below_drewN | apply below_drew1 | refine below_set ?_ GE237.out) | exact HB.out)⟩⟩
              · replace c22 := Bool.eq_false_iff.mpr c22
                subst c22
                have H1 : (rampartlaw16_EdgeLast.l0 k1 t240 (t240 == ((rd_T49 l0_10 x6_1).f1)) false (wrap64 (x6_1 + 1)) a0_0 a0_1 a0_2 a0_3 a0_4 a0_5 a0_6 a0_7 a0_8 a0_9 l0_10 a0_11 a0_12 a0_13 a0_14) = some true := by rw [if_neg (show ¬ (false = true) by decide)] at H; exact H
                clear H
                have H := H1
                clear H1
                have H' := Aside0.mk H
                clear H
                have hcz26_0 : wr.cell? ⟨gb237, 0, none⟩ = some (.int .i64 a0_0) := (blk_cell BK237.out 0).trans rfl
                have hcz26_1 : wr.cell? ⟨gb237, 1, none⟩ = some (.int .i64 a0_1) := (blk_cell BK237.out 1).trans rfl
                have hcz26_2 : wr.cell? ⟨gb237, 2, none⟩ = some (.int .u32 a0_2) := (blk_cell BK237.out 2).trans rfl
                have hcz26_3 : wr.cell? ⟨gb237, 3, none⟩ = some (.int .u32 a0_3) := (blk_cell BK237.out 3).trans rfl
                have hcz26_4 : wr.cell? ⟨gb237, 4, none⟩ = some (.int .i64 a0_4) := (blk_cell BK237.out 4).trans rfl
                have hcz26_5 : wr.cell? ⟨gb237, 5, none⟩ = some (.int .i64 a0_5) := (blk_cell BK237.out 5).trans rfl
                have hcz26_6 : wr.cell? ⟨gb237, 6, none⟩ = some (.int .i64 a0_6) := (blk_cell BK237.out 6).trans rfl
                have hcz26_7 : wr.cell? ⟨gb237, 7, none⟩ = some (.int .i64 a0_7) := (blk_cell BK237.out 7).trans rfl
                have hcz26_8 : wr.cell? ⟨gb237, 8, none⟩ = some (.int .i64 a0_8) := (blk_cell BK237.out 8).trans rfl
                have hcz26_9 : wr.cell? ⟨gb237, 9, none⟩ = some (.bool a0_9) := (blk_cell BK237.out 9).trans rfl
                have hcz26_10 : wr.cell? ⟨gb237, 10, none⟩ = some (.slice A0_10 l0_10.length c0_10) := (blk_cell BK237.out 10).trans rfl
                have hcz26_11 : wr.cell? ⟨gb237, 11, none⟩ = some (.bool a0_11) := (blk_cell BK237.out 11).trans rfl
                have hcz26_12 : wr.cell? ⟨gb237, 12, none⟩ = some (.int .u32 a0_12) := (blk_cell BK237.out 12).trans rfl
                have hcz26_13 : wr.cell? ⟨gb237, 13, none⟩ = some (.int .u32 a0_13) := (blk_cell BK237.out 13).trans rfl
                have hcz26_14 : wr.cell? ⟨gb237, 14, none⟩ = some (.string a0_14) := (blk_cell BK237.out 14).trans rfl
                have hfz26_0 := blk_frozen BK237.out 0
                have hfz26_1 := blk_frozen BK237.out 1
                have hfz26_2 := blk_frozen BK237.out 2
                have hfz26_3 := blk_frozen BK237.out 3
                have hfz26_4 := blk_frozen BK237.out 4
                have hfz26_5 := blk_frozen BK237.out 5
                have hfz26_6 := blk_frozen BK237.out 6
                have hfz26_7 := blk_frozen BK237.out 7
                have hfz26_8 := blk_frozen BK237.out 8
                have hfz26_9 := blk_frozen BK237.out 9
                have hfz26_10 := blk_frozen BK237.out 10
                have hfz26_11 := blk_frozen BK237.out 11
                have hfz26_12 := blk_frozen BK237.out 12
                have hfz26_13 := blk_frozen BK237.out 13
                have hfz26_14 := blk_frozen BK237.out 14
                have p243 : 0 ≤ (x6_1 : Int) := of_decide_eq_true (by first | (with_reducible assumption) | assumption)
                have q243 : x6_1 < (l0_10.length : Int) := of_decide_eq_true (by first | (with_reducible assumption) | assumption)
                obtain ⟨ad243, e243, hx243_0, hx243_1⟩ := at_T49 HR0_10.out x6_1 p243 q243
                cases e243
                replace hx243_0 := (HB.out.cell (World.block_lt_of_cell? w _ hx243_0)).trans hx243_0
                replace hx243_1 := (HB.out.cell (World.block_lt_of_cell? w _ hx243_1)).trans hx243_1
                replace p243 := eq_true p243
                replace q243 := eq_true q243
                have p244 : 0 ≤ (x6_1 : Int) := of_decide_eq_true (by first | (with_reducible assumption) | assumption)
                have q244 : x6_1 < (l0_10.length : Int) := of_decide_eq_true (by first | (with_reducible assumption) | assumption)
                obtain ⟨ad244, e244, hx244_0, hx244_1⟩ := at_T49 HR0_10.out x6_1 p244 q244
                obtain rfl : ad243 = ad244 := (by injection e244)
                replace hx244_0 := (HB.out.cell (World.block_lt_of_cell? w _ hx244_0)).trans hx244_0
                replace hx244_1 := (HB.out.cell (World.block_lt_of_cell? w _ hx244_1)).trans hx244_1
                replace p244 := eq_true p244
                replace q244 := eq_true q244
                go_wp2_with (first | (go_at_call 15; (with_reducible refine (rampartref03_Gap.calls a0_3 ((rd_T49 l0_10 x6_1).f1) t245 _ A21.out).mono ?_); rintro e w' ⟨rfl, ⟨nd, rfl⟩⟩; (try first | exact ⟨rfl, _, World.drewN_drewN _ _ _⟩ | exact ⟨rfl, _, Eq.trans (World.drewN_drewN _ _ _) (congrArg (World.drewN _) (Nat.add_assoc _ _ _))⟩)))
                repeat (go_quiet (first | (go_at_call 15; (with_reducible refine (rampartref03_Gap.calls a0_3 ((rd_T49 l0_10 x6_1).f1) t245 _ A21.out).mono ?_); rintro e w' ⟨rfl, ⟨nd, rfl⟩⟩; (try first | exact ⟨rfl, _, World.drewN_drewN _ _ _⟩ | exact ⟨rfl, _, Eq.trans (World.drewN_drewN _ _ _) (congrArg (World.drewN _) (Nat.add_assoc _ _ _))⟩))); try go_wp2_with (first | (go_at_call 15; (with_reducible refine (rampartref03_Gap.calls a0_3 ((rd_T49 l0_10 x6_1).f1) t245 _ A21.out).mono ?_); rintro e w' ⟨rfl, ⟨nd, rfl⟩⟩; (try first | exact ⟨rfl, _, World.drewN_drewN _ _ _⟩ | exact ⟨rfl, _, Eq.trans (World.drewN_drewN _ _ _) (congrArg (World.drewN _) (Nat.add_assoc _ _ _))⟩))))
                go_roundg k1
                case measure => have := HK1.out; omega
                case rel => exact ⟨((t240 == ((rd_T49 l0_10 x6_1).f1))), (false), (wrap64 (x6_1 + 1)), (by first | rfl | (simp; done) | (simp [*]; done)), (by first | rfl | (simp; done) | (simp [*]; done)), (by first | rfl | (simp; done) | (simp [*]; done)), H', ⟨by have := HK1.out; omega⟩, ⟨by (with_reducible repeat (first | refine blk_drewN ?_ _ | refine blk_drew ?_ | refine blk_alloc ?_ _)); exact BK237.out⟩, ⟨by repeat (first | (with_reducible first | exact HB.out | apply below_alloc | apply pw_below_drewN | apply below_drew1 | refine below_set ?_ GE237.out) | exact HB.out)⟩⟩
            · rw [if_neg c20] at H
              exact absurd H (by simp)
        · rw [if_neg c11] at H
          have c11b0 : decide (x6_1 < (l0_10.length : Int)) = false := decide_eq_false c11
          clear c11
          have H' := Aside0.mk H
          clear H
          have hcz27_0 : wr.cell? ⟨gb237, 0, none⟩ = some (.int .i64 a0_0) := (blk_cell BK237.out 0).trans rfl
          have hcz27_1 : wr.cell? ⟨gb237, 1, none⟩ = some (.int .i64 a0_1) := (blk_cell BK237.out 1).trans rfl
          have hcz27_2 : wr.cell? ⟨gb237, 2, none⟩ = some (.int .u32 a0_2) := (blk_cell BK237.out 2).trans rfl
          have hcz27_3 : wr.cell? ⟨gb237, 3, none⟩ = some (.int .u32 a0_3) := (blk_cell BK237.out 3).trans rfl
          have hcz27_4 : wr.cell? ⟨gb237, 4, none⟩ = some (.int .i64 a0_4) := (blk_cell BK237.out 4).trans rfl
          have hcz27_5 : wr.cell? ⟨gb237, 5, none⟩ = some (.int .i64 a0_5) := (blk_cell BK237.out 5).trans rfl
          have hcz27_6 : wr.cell? ⟨gb237, 6, none⟩ = some (.int .i64 a0_6) := (blk_cell BK237.out 6).trans rfl
          have hcz27_7 : wr.cell? ⟨gb237, 7, none⟩ = some (.int .i64 a0_7) := (blk_cell BK237.out 7).trans rfl
          have hcz27_8 : wr.cell? ⟨gb237, 8, none⟩ = some (.int .i64 a0_8) := (blk_cell BK237.out 8).trans rfl
          have hcz27_9 : wr.cell? ⟨gb237, 9, none⟩ = some (.bool a0_9) := (blk_cell BK237.out 9).trans rfl
          have hcz27_10 : wr.cell? ⟨gb237, 10, none⟩ = some (.slice A0_10 l0_10.length c0_10) := (blk_cell BK237.out 10).trans rfl
          have hcz27_11 : wr.cell? ⟨gb237, 11, none⟩ = some (.bool a0_11) := (blk_cell BK237.out 11).trans rfl
          have hcz27_12 : wr.cell? ⟨gb237, 12, none⟩ = some (.int .u32 a0_12) := (blk_cell BK237.out 12).trans rfl
          have hcz27_13 : wr.cell? ⟨gb237, 13, none⟩ = some (.int .u32 a0_13) := (blk_cell BK237.out 13).trans rfl
          have hcz27_14 : wr.cell? ⟨gb237, 14, none⟩ = some (.string a0_14) := (blk_cell BK237.out 14).trans rfl
          have hfz27_0 := blk_frozen BK237.out 0
          have hfz27_1 := blk_frozen BK237.out 1
          have hfz27_2 := blk_frozen BK237.out 2
          have hfz27_3 := blk_frozen BK237.out 3
          have hfz27_4 := blk_frozen BK237.out 4
          have hfz27_5 := blk_frozen BK237.out 5
          have hfz27_6 := blk_frozen BK237.out 6
          have hfz27_7 := blk_frozen BK237.out 7
          have hfz27_8 := blk_frozen BK237.out 8
          have hfz27_9 := blk_frozen BK237.out 9
          have hfz27_10 := blk_frozen BK237.out 10
          have hfz27_11 := blk_frozen BK237.out 11
          have hfz27_12 := blk_frozen BK237.out 12
          have hfz27_13 := blk_frozen BK237.out 13
          have hfz27_14 := blk_frozen BK237.out 14
          go_wp2
          repeat (go_quiet (fail); try go_wp2)
          go_loopg [8] k1 (fun kq v8 w' => ∃ (x8_2 : Int), v8 = .int .i64 x8_2 ∧ Aside0 (rampartlaw16_EdgeLast.l1 kq t240 x4_1 x5_1 x8_2 a0_0 a0_1 a0_2 a0_3 a0_4 a0_5 a0_6 a0_7 a0_8 a0_9 l0_10 a0_11 a0_12 a0_13 a0_14 = some true) ∧ Aside0 (kq ≤ k1) ∧ Aside0 (w'.heap[gb237]? = some (.cells #[.int .i64 a0_0, .int .i64 a0_1, .int .u32 a0_2, .int .u32 a0_3, .int .i64 a0_4, .int .i64 a0_5, .int .i64 a0_6, .int .i64 a0_7, .int .i64 a0_8, .bool a0_9, (.slice A0_10 l0_10.length c0_10), .bool a0_11, .int .u32 a0_12, .int .u32 a0_13, .string a0_14] 38 (0, 0))) ∧ Aside0 (Below w.heap.size w w'))
          case atStart => exact ⟨(0), (by first | rfl | (simp; done) | (simp [*]; done)), H', ⟨Nat.le_refl _⟩, ⟨by (with_reducible repeat (first | refine blk_drewN ?_ _ | refine blk_drew ?_ | refine blk_alloc ?_ _)); exact BK237.out⟩, ⟨by repeat (first | (with_reducible first | exact HB.out | apply below_alloc | apply pw_below_drewN | apply below_drew1 | refine below_set ?_ GE237.out) | exact HB.out)⟩⟩
          case round =>
            clear H'
            try clear c1
            try clear c2
            try clear p2
            try clear q2
            try clear hx2
            try clear c3
            try clear p6
            try clear c11
            try clear c11b0
            try clear c12
            try clear c13
            try clear c13b0
            try clear c15
            try clear c16
            try clear c16b0
            try clear c20
            try clear c20b0
            try clear c22
            try clear c23
            try clear c23b0
            try clear p24
            try clear q24
            try clear hx24
            try clear hcz10_0
            try clear hcz10_1
            try clear hcz10_10
            try clear hcz10_11
            try clear hcz10_12
            try clear hcz10_13
            try clear hcz10_14
            try clear hcz10_2
            try clear hcz10_3
            try clear hcz10_4
            try clear hcz10_5
            try clear hcz10_6
            try clear hcz10_7
            try clear hcz10_8
            try clear hcz10_9
            try clear hcz17_0
            try clear hcz17_1
            try clear hcz17_10
            try clear hcz17_11
            try clear hcz17_12
            try clear hcz17_13
            try clear hcz17_14
            try clear hcz17_2
            try clear hcz17_3
            try clear hcz17_4
            try clear hcz17_5
            try clear hcz17_6
            try clear hcz17_7
            try clear hcz17_8
            try clear hcz17_9
            try clear hcz18_0
            try clear hcz18_1
            try clear hcz18_10
            try clear hcz18_11
            try clear hcz18_12
            try clear hcz18_13
            try clear hcz18_14
            try clear hcz18_2
            try clear hcz18_3
            try clear hcz18_4
            try clear hcz18_5
            try clear hcz18_6
            try clear hcz18_7
            try clear hcz18_8
            try clear hcz18_9
            try clear hcz19_0
            try clear hcz19_1
            try clear hcz19_10
            try clear hcz19_11
            try clear hcz19_12
            try clear hcz19_13
            try clear hcz19_14
            try clear hcz19_2
            try clear hcz19_3
            try clear hcz19_4
            try clear hcz19_5
            try clear hcz19_6
            try clear hcz19_7
            try clear hcz19_8
            try clear hcz19_9
            try clear hcz24_0
            try clear hcz24_1
            try clear hcz24_10
            try clear hcz24_11
            try clear hcz24_12
            try clear hcz24_13
            try clear hcz24_14
            try clear hcz24_2
            try clear hcz24_3
            try clear hcz24_4
            try clear hcz24_5
            try clear hcz24_6
            try clear hcz24_7
            try clear hcz24_8
            try clear hcz24_9
            try clear hcz25_0
            try clear hcz25_1
            try clear hcz25_10
            try clear hcz25_11
            try clear hcz25_12
            try clear hcz25_13
            try clear hcz25_14
            try clear hcz25_2
            try clear hcz25_3
            try clear hcz25_4
            try clear hcz25_5
            try clear hcz25_6
            try clear hcz25_7
            try clear hcz25_8
            try clear hcz25_9
            try clear hcz26_0
            try clear hcz26_1
            try clear hcz26_10
            try clear hcz26_11
            try clear hcz26_12
            try clear hcz26_13
            try clear hcz26_14
            try clear hcz26_2
            try clear hcz26_3
            try clear hcz26_4
            try clear hcz26_5
            try clear hcz26_6
            try clear hcz26_7
            try clear hcz26_8
            try clear hcz26_9
            try clear hcz27_0
            try clear hcz27_1
            try clear hcz27_10
            try clear hcz27_11
            try clear hcz27_12
            try clear hcz27_13
            try clear hcz27_14
            try clear hcz27_2
            try clear hcz27_3
            try clear hcz27_4
            try clear hcz27_5
            try clear hcz27_6
            try clear hcz27_7
            try clear hcz27_8
            try clear hcz27_9
            try clear hcz6_0
            try clear hcz6_1
            try clear hcz6_10
            try clear hcz6_11
            try clear hcz6_12
            try clear hcz6_13
            try clear hcz6_14
            try clear hcz6_2
            try clear hcz6_3
            try clear hcz6_4
            try clear hcz6_5
            try clear hcz6_6
            try clear hcz6_7
            try clear hcz6_8
            try clear hcz6_9
            try clear hcz8_0
            try clear hcz8_1
            try clear hcz8_10
            try clear hcz8_11
            try clear hcz8_12
            try clear hcz8_13
            try clear hcz8_14
            try clear hcz8_2
            try clear hcz8_3
            try clear hcz8_4
            try clear hcz8_5
            try clear hcz8_6
            try clear hcz8_7
            try clear hcz8_8
            try clear hcz8_9
            try clear hfz10_0
            try clear hfz10_1
            try clear hfz10_10
            try clear hfz10_11
            try clear hfz10_12
            try clear hfz10_13
            try clear hfz10_14
            try clear hfz10_2
            try clear hfz10_3
            try clear hfz10_4
            try clear hfz10_5
            try clear hfz10_6
            try clear hfz10_7
            try clear hfz10_8
            try clear hfz10_9
            try clear hfz17_0
            try clear hfz17_1
            try clear hfz17_10
            try clear hfz17_11
            try clear hfz17_12
            try clear hfz17_13
            try clear hfz17_14
            try clear hfz17_2
            try clear hfz17_3
            try clear hfz17_4
            try clear hfz17_5
            try clear hfz17_6
            try clear hfz17_7
            try clear hfz17_8
            try clear hfz17_9
            try clear hfz18_0
            try clear hfz18_1
            try clear hfz18_10
            try clear hfz18_11
            try clear hfz18_12
            try clear hfz18_13
            try clear hfz18_14
            try clear hfz18_2
            try clear hfz18_3
            try clear hfz18_4
            try clear hfz18_5
            try clear hfz18_6
            try clear hfz18_7
            try clear hfz18_8
            try clear hfz18_9
            try clear hfz19_0
            try clear hfz19_1
            try clear hfz19_10
            try clear hfz19_11
            try clear hfz19_12
            try clear hfz19_13
            try clear hfz19_14
            try clear hfz19_2
            try clear hfz19_3
            try clear hfz19_4
            try clear hfz19_5
            try clear hfz19_6
            try clear hfz19_7
            try clear hfz19_8
            try clear hfz19_9
            try clear hfz24_0
            try clear hfz24_1
            try clear hfz24_10
            try clear hfz24_11
            try clear hfz24_12
            try clear hfz24_13
            try clear hfz24_14
            try clear hfz24_2
            try clear hfz24_3
            try clear hfz24_4
            try clear hfz24_5
            try clear hfz24_6
            try clear hfz24_7
            try clear hfz24_8
            try clear hfz24_9
            try clear hfz25_0
            try clear hfz25_1
            try clear hfz25_10
            try clear hfz25_11
            try clear hfz25_12
            try clear hfz25_13
            try clear hfz25_14
            try clear hfz25_2
            try clear hfz25_3
            try clear hfz25_4
            try clear hfz25_5
            try clear hfz25_6
            try clear hfz25_7
            try clear hfz25_8
            try clear hfz25_9
            try clear hfz26_0
            try clear hfz26_1
            try clear hfz26_10
            try clear hfz26_11
            try clear hfz26_12
            try clear hfz26_13
            try clear hfz26_14
            try clear hfz26_2
            try clear hfz26_3
            try clear hfz26_4
            try clear hfz26_5
            try clear hfz26_6
            try clear hfz26_7
            try clear hfz26_8
            try clear hfz26_9
            try clear hfz27_0
            try clear hfz27_1
            try clear hfz27_10
            try clear hfz27_11
            try clear hfz27_12
            try clear hfz27_13
            try clear hfz27_14
            try clear hfz27_2
            try clear hfz27_3
            try clear hfz27_4
            try clear hfz27_5
            try clear hfz27_6
            try clear hfz27_7
            try clear hfz27_8
            try clear hfz27_9
            try clear hfz6_0
            try clear hfz6_1
            try clear hfz6_10
            try clear hfz6_11
            try clear hfz6_12
            try clear hfz6_13
            try clear hfz6_14
            try clear hfz6_2
            try clear hfz6_3
            try clear hfz6_4
            try clear hfz6_5
            try clear hfz6_6
            try clear hfz6_7
            try clear hfz6_8
            try clear hfz6_9
            try clear hfz8_0
            try clear hfz8_1
            try clear hfz8_10
            try clear hfz8_11
            try clear hfz8_12
            try clear hfz8_13
            try clear hfz8_14
            try clear hfz8_2
            try clear hfz8_3
            try clear hfz8_4
            try clear hfz8_5
            try clear hfz8_6
            try clear hfz8_7
            try clear hfz8_8
            try clear hfz8_9
            try clear hx241_0
            try clear hx241_1
            try clear hx243_0
            try clear hx243_1
            try clear hx244_0
            try clear hx244_1
            try clear p2
            try clear p241
            try clear p243
            try clear p244
            try clear q241
            try clear q243
            try clear q244
            obtain ⟨x8_2, rfl, HA, HK2, BK237, HB⟩ := hrel
            cases gk with
            | zero => exact absurd HA.out (by simp [rampartlaw16_EdgeLast.l1])
            | succ k2 =>
              have H := HA.out
              clear HA
              simp only [rampartlaw16_EdgeLast.l1] at H
              have HC28 := Aside0.mk H
              clear H
              go_upto_region 13 with (fail)
              repeat (go_quiet (fail); go_upto_region 13 with (fail))
              go_cut [66] (fun v66 wc => ∃ (kq : Nat) (x66_27 : Bool), v66 = .bool x66_27 ∧ Aside0 (rampartlaw16_EdgeLast.j2 kq t240 x4_1 x5_1 x8_2 x66_27 a0_0 a0_1 a0_2 a0_3 a0_4 a0_5 a0_6 a0_7 a0_8 a0_9 l0_10 a0_11 a0_12 a0_13 a0_14 = some true) ∧ Aside0 (kq ≤ k2) ∧ Aside0 (wc.heap[gb237]? = some (.cells #[.int .i64 a0_0, .int .i64 a0_1, .int .u32 a0_2, .int .u32 a0_3, .int .i64 a0_4, .int .i64 a0_5, .int .i64 a0_6, .int .i64 a0_7, .int .i64 a0_8, .bool a0_9, (.slice A0_10 l0_10.length c0_10), .bool a0_11, .int .u32 a0_12, .int .u32 a0_13, .string a0_14] 38 (0, 0))) ∧ Aside0 (Below w.heap.size w wc))
              case first =>
                have H := HC28.out
                clear HC28
                by_cases c29 : x8_2 < (l0_10.length : Int)
                · rw [if_pos c29] at H
                  have c29b0 : decide (x8_2 < (l0_10.length : Int)) = true := decide_eq_true c29
                  clear c29
                  (first | rw [c29b0] | (simp only [i64_w, i32_w]; rw [c29b0]) | skip)
                  have H' := Aside0.mk H
                  clear H
                  have hcz30_0 : wr.cell? ⟨gb237, 0, none⟩ = some (.int .i64 a0_0) := (blk_cell BK237.out 0).trans rfl
                  have hcz30_1 : wr.cell? ⟨gb237, 1, none⟩ = some (.int .i64 a0_1) := (blk_cell BK237.out 1).trans rfl
                  have hcz30_2 : wr.cell? ⟨gb237, 2, none⟩ = some (.int .u32 a0_2) := (blk_cell BK237.out 2).trans rfl
                  have hcz30_3 : wr.cell? ⟨gb237, 3, none⟩ = some (.int .u32 a0_3) := (blk_cell BK237.out 3).trans rfl
                  have hcz30_4 : wr.cell? ⟨gb237, 4, none⟩ = some (.int .i64 a0_4) := (blk_cell BK237.out 4).trans rfl
                  have hcz30_5 : wr.cell? ⟨gb237, 5, none⟩ = some (.int .i64 a0_5) := (blk_cell BK237.out 5).trans rfl
                  have hcz30_6 : wr.cell? ⟨gb237, 6, none⟩ = some (.int .i64 a0_6) := (blk_cell BK237.out 6).trans rfl
                  have hcz30_7 : wr.cell? ⟨gb237, 7, none⟩ = some (.int .i64 a0_7) := (blk_cell BK237.out 7).trans rfl
                  have hcz30_8 : wr.cell? ⟨gb237, 8, none⟩ = some (.int .i64 a0_8) := (blk_cell BK237.out 8).trans rfl
                  have hcz30_9 : wr.cell? ⟨gb237, 9, none⟩ = some (.bool a0_9) := (blk_cell BK237.out 9).trans rfl
                  have hcz30_10 : wr.cell? ⟨gb237, 10, none⟩ = some (.slice A0_10 l0_10.length c0_10) := (blk_cell BK237.out 10).trans rfl
                  have hcz30_11 : wr.cell? ⟨gb237, 11, none⟩ = some (.bool a0_11) := (blk_cell BK237.out 11).trans rfl
                  have hcz30_12 : wr.cell? ⟨gb237, 12, none⟩ = some (.int .u32 a0_12) := (blk_cell BK237.out 12).trans rfl
                  have hcz30_13 : wr.cell? ⟨gb237, 13, none⟩ = some (.int .u32 a0_13) := (blk_cell BK237.out 13).trans rfl
                  have hcz30_14 : wr.cell? ⟨gb237, 14, none⟩ = some (.string a0_14) := (blk_cell BK237.out 14).trans rfl
                  have hfz30_0 := blk_frozen BK237.out 0
                  have hfz30_1 := blk_frozen BK237.out 1
                  have hfz30_2 := blk_frozen BK237.out 2
                  have hfz30_3 := blk_frozen BK237.out 3
                  have hfz30_4 := blk_frozen BK237.out 4
                  have hfz30_5 := blk_frozen BK237.out 5
                  have hfz30_6 := blk_frozen BK237.out 6
                  have hfz30_7 := blk_frozen BK237.out 7
                  have hfz30_8 := blk_frozen BK237.out 8
                  have hfz30_9 := blk_frozen BK237.out 9
                  have hfz30_10 := blk_frozen BK237.out 10
                  have hfz30_11 := blk_frozen BK237.out 11
                  have hfz30_12 := blk_frozen BK237.out 12
                  have hfz30_13 := blk_frozen BK237.out 13
                  have hfz30_14 := blk_frozen BK237.out 14
                  go_wp2
                  repeat (go_quiet (fail); try go_wp2)
                  go_meet
                  case rel => exact ⟨_, (x5_1), (by first | rfl | (simp; done) | (simp [*]; done)), H', ⟨by have := HK1.out; have := HK2.out; first | omega | exact Nat.le_refl _⟩, ⟨by (with_reducible repeat (first | refine blk_drewN ?_ _ | refine blk_drew ?_ | refine blk_alloc ?_ _)); exact BK237.out⟩, ⟨by repeat (first | (with_reducible first | exact HB.out | apply below_alloc | apply pw_below_drewN | apply below_drew1 | refine below_set ?_ GE237.out) | exact HB.out)⟩⟩
                · rw [if_neg c29] at H
                  have c29b0 : decide (x8_2 < (l0_10.length : Int)) = false := decide_eq_false c29
                  clear c29
                  (first | rw [c29b0] | (simp only [i64_w, i32_w]; rw [c29b0]) | skip)
                  have H' := Aside0.mk H
                  clear H
                  have hcz31_0 : wr.cell? ⟨gb237, 0, none⟩ = some (.int .i64 a0_0) := (blk_cell BK237.out 0).trans rfl
                  have hcz31_1 : wr.cell? ⟨gb237, 1, none⟩ = some (.int .i64 a0_1) := (blk_cell BK237.out 1).trans rfl
                  have hcz31_2 : wr.cell? ⟨gb237, 2, none⟩ = some (.int .u32 a0_2) := (blk_cell BK237.out 2).trans rfl
                  have hcz31_3 : wr.cell? ⟨gb237, 3, none⟩ = some (.int .u32 a0_3) := (blk_cell BK237.out 3).trans rfl
                  have hcz31_4 : wr.cell? ⟨gb237, 4, none⟩ = some (.int .i64 a0_4) := (blk_cell BK237.out 4).trans rfl
                  have hcz31_5 : wr.cell? ⟨gb237, 5, none⟩ = some (.int .i64 a0_5) := (blk_cell BK237.out 5).trans rfl
                  have hcz31_6 : wr.cell? ⟨gb237, 6, none⟩ = some (.int .i64 a0_6) := (blk_cell BK237.out 6).trans rfl
                  have hcz31_7 : wr.cell? ⟨gb237, 7, none⟩ = some (.int .i64 a0_7) := (blk_cell BK237.out 7).trans rfl
                  have hcz31_8 : wr.cell? ⟨gb237, 8, none⟩ = some (.int .i64 a0_8) := (blk_cell BK237.out 8).trans rfl
                  have hcz31_9 : wr.cell? ⟨gb237, 9, none⟩ = some (.bool a0_9) := (blk_cell BK237.out 9).trans rfl
                  have hcz31_10 : wr.cell? ⟨gb237, 10, none⟩ = some (.slice A0_10 l0_10.length c0_10) := (blk_cell BK237.out 10).trans rfl
                  have hcz31_11 : wr.cell? ⟨gb237, 11, none⟩ = some (.bool a0_11) := (blk_cell BK237.out 11).trans rfl
                  have hcz31_12 : wr.cell? ⟨gb237, 12, none⟩ = some (.int .u32 a0_12) := (blk_cell BK237.out 12).trans rfl
                  have hcz31_13 : wr.cell? ⟨gb237, 13, none⟩ = some (.int .u32 a0_13) := (blk_cell BK237.out 13).trans rfl
                  have hcz31_14 : wr.cell? ⟨gb237, 14, none⟩ = some (.string a0_14) := (blk_cell BK237.out 14).trans rfl
                  have hfz31_0 := blk_frozen BK237.out 0
                  have hfz31_1 := blk_frozen BK237.out 1
                  have hfz31_2 := blk_frozen BK237.out 2
                  have hfz31_3 := blk_frozen BK237.out 3
                  have hfz31_4 := blk_frozen BK237.out 4
                  have hfz31_5 := blk_frozen BK237.out 5
                  have hfz31_6 := blk_frozen BK237.out 6
                  have hfz31_7 := blk_frozen BK237.out 7
                  have hfz31_8 := blk_frozen BK237.out 8
                  have hfz31_9 := blk_frozen BK237.out 9
                  have hfz31_10 := blk_frozen BK237.out 10
                  have hfz31_11 := blk_frozen BK237.out 11
                  have hfz31_12 := blk_frozen BK237.out 12
                  have hfz31_13 := blk_frozen BK237.out 13
                  have hfz31_14 := blk_frozen BK237.out 14
                  go_wp2
                  repeat (go_quiet (fail); try go_wp2)
                  go_meet
                  case rel => exact ⟨_, (false), (by first | rfl | (simp; done) | (simp [*]; done)), H', ⟨by have := HK1.out; have := HK2.out; first | omega | exact Nat.le_refl _⟩, ⟨by (with_reducible repeat (first | refine blk_drewN ?_ _ | refine blk_drew ?_ | refine blk_alloc ?_ _)); exact BK237.out⟩, ⟨by repeat (first | (with_reducible first | exact HB.out | apply below_alloc | apply pw_below_drewN | apply below_drew1 | refine below_set ?_ GE237.out) | exact HB.out)⟩⟩
              case rest =>
                clear HC28
                try clear c1
                try clear c2
                try clear p2
                try clear q2
                try clear hx2
                try clear c3
                try clear p6
                try clear c11
                try clear c11b0
                try clear c12
                try clear c13
                try clear c13b0
                try clear c15
                try clear c16
                try clear c16b0
                try clear c20
                try clear c20b0
                try clear c22
                try clear c23
                try clear c23b0
                try clear p24
                try clear q24
                try clear hx24
                try clear c29
                try clear c29b0
                try clear hcz10_0
                try clear hcz10_1
                try clear hcz10_10
                try clear hcz10_11
                try clear hcz10_12
                try clear hcz10_13
                try clear hcz10_14
                try clear hcz10_2
                try clear hcz10_3
                try clear hcz10_4
                try clear hcz10_5
                try clear hcz10_6
                try clear hcz10_7
                try clear hcz10_8
                try clear hcz10_9
                try clear hcz17_0
                try clear hcz17_1
                try clear hcz17_10
                try clear hcz17_11
                try clear hcz17_12
                try clear hcz17_13
                try clear hcz17_14
                try clear hcz17_2
                try clear hcz17_3
                try clear hcz17_4
                try clear hcz17_5
                try clear hcz17_6
                try clear hcz17_7
                try clear hcz17_8
                try clear hcz17_9
                try clear hcz18_0
                try clear hcz18_1
                try clear hcz18_10
                try clear hcz18_11
                try clear hcz18_12
                try clear hcz18_13
                try clear hcz18_14
                try clear hcz18_2
                try clear hcz18_3
                try clear hcz18_4
                try clear hcz18_5
                try clear hcz18_6
                try clear hcz18_7
                try clear hcz18_8
                try clear hcz18_9
                try clear hcz19_0
                try clear hcz19_1
                try clear hcz19_10
                try clear hcz19_11
                try clear hcz19_12
                try clear hcz19_13
                try clear hcz19_14
                try clear hcz19_2
                try clear hcz19_3
                try clear hcz19_4
                try clear hcz19_5
                try clear hcz19_6
                try clear hcz19_7
                try clear hcz19_8
                try clear hcz19_9
                try clear hcz24_0
                try clear hcz24_1
                try clear hcz24_10
                try clear hcz24_11
                try clear hcz24_12
                try clear hcz24_13
                try clear hcz24_14
                try clear hcz24_2
                try clear hcz24_3
                try clear hcz24_4
                try clear hcz24_5
                try clear hcz24_6
                try clear hcz24_7
                try clear hcz24_8
                try clear hcz24_9
                try clear hcz25_0
                try clear hcz25_1
                try clear hcz25_10
                try clear hcz25_11
                try clear hcz25_12
                try clear hcz25_13
                try clear hcz25_14
                try clear hcz25_2
                try clear hcz25_3
                try clear hcz25_4
                try clear hcz25_5
                try clear hcz25_6
                try clear hcz25_7
                try clear hcz25_8
                try clear hcz25_9
                try clear hcz26_0
                try clear hcz26_1
                try clear hcz26_10
                try clear hcz26_11
                try clear hcz26_12
                try clear hcz26_13
                try clear hcz26_14
                try clear hcz26_2
                try clear hcz26_3
                try clear hcz26_4
                try clear hcz26_5
                try clear hcz26_6
                try clear hcz26_7
                try clear hcz26_8
                try clear hcz26_9
                try clear hcz27_0
                try clear hcz27_1
                try clear hcz27_10
                try clear hcz27_11
                try clear hcz27_12
                try clear hcz27_13
                try clear hcz27_14
                try clear hcz27_2
                try clear hcz27_3
                try clear hcz27_4
                try clear hcz27_5
                try clear hcz27_6
                try clear hcz27_7
                try clear hcz27_8
                try clear hcz27_9
                try clear hcz30_0
                try clear hcz30_1
                try clear hcz30_10
                try clear hcz30_11
                try clear hcz30_12
                try clear hcz30_13
                try clear hcz30_14
                try clear hcz30_2
                try clear hcz30_3
                try clear hcz30_4
                try clear hcz30_5
                try clear hcz30_6
                try clear hcz30_7
                try clear hcz30_8
                try clear hcz30_9
                try clear hcz31_0
                try clear hcz31_1
                try clear hcz31_10
                try clear hcz31_11
                try clear hcz31_12
                try clear hcz31_13
                try clear hcz31_14
                try clear hcz31_2
                try clear hcz31_3
                try clear hcz31_4
                try clear hcz31_5
                try clear hcz31_6
                try clear hcz31_7
                try clear hcz31_8
                try clear hcz31_9
                try clear hcz6_0
                try clear hcz6_1
                try clear hcz6_10
                try clear hcz6_11
                try clear hcz6_12
                try clear hcz6_13
                try clear hcz6_14
                try clear hcz6_2
                try clear hcz6_3
                try clear hcz6_4
                try clear hcz6_5
                try clear hcz6_6
                try clear hcz6_7
                try clear hcz6_8
                try clear hcz6_9
                try clear hcz8_0
                try clear hcz8_1
                try clear hcz8_10
                try clear hcz8_11
                try clear hcz8_12
                try clear hcz8_13
                try clear hcz8_14
                try clear hcz8_2
                try clear hcz8_3
                try clear hcz8_4
                try clear hcz8_5
                try clear hcz8_6
                try clear hcz8_7
                try clear hcz8_8
                try clear hcz8_9
                try clear hfz10_0
                try clear hfz10_1
                try clear hfz10_10
                try clear hfz10_11
                try clear hfz10_12
                try clear hfz10_13
                try clear hfz10_14
                try clear hfz10_2
                try clear hfz10_3
                try clear hfz10_4
                try clear hfz10_5
                try clear hfz10_6
                try clear hfz10_7
                try clear hfz10_8
                try clear hfz10_9
                try clear hfz17_0
                try clear hfz17_1
                try clear hfz17_10
                try clear hfz17_11
                try clear hfz17_12
                try clear hfz17_13
                try clear hfz17_14
                try clear hfz17_2
                try clear hfz17_3
                try clear hfz17_4
                try clear hfz17_5
                try clear hfz17_6
                try clear hfz17_7
                try clear hfz17_8
                try clear hfz17_9
                try clear hfz18_0
                try clear hfz18_1
                try clear hfz18_10
                try clear hfz18_11
                try clear hfz18_12
                try clear hfz18_13
                try clear hfz18_14
                try clear hfz18_2
                try clear hfz18_3
                try clear hfz18_4
                try clear hfz18_5
                try clear hfz18_6
                try clear hfz18_7
                try clear hfz18_8
                try clear hfz18_9
                try clear hfz19_0
                try clear hfz19_1
                try clear hfz19_10
                try clear hfz19_11
                try clear hfz19_12
                try clear hfz19_13
                try clear hfz19_14
                try clear hfz19_2
                try clear hfz19_3
                try clear hfz19_4
                try clear hfz19_5
                try clear hfz19_6
                try clear hfz19_7
                try clear hfz19_8
                try clear hfz19_9
                try clear hfz24_0
                try clear hfz24_1
                try clear hfz24_10
                try clear hfz24_11
                try clear hfz24_12
                try clear hfz24_13
                try clear hfz24_14
                try clear hfz24_2
                try clear hfz24_3
                try clear hfz24_4
                try clear hfz24_5
                try clear hfz24_6
                try clear hfz24_7
                try clear hfz24_8
                try clear hfz24_9
                try clear hfz25_0
                try clear hfz25_1
                try clear hfz25_10
                try clear hfz25_11
                try clear hfz25_12
                try clear hfz25_13
                try clear hfz25_14
                try clear hfz25_2
                try clear hfz25_3
                try clear hfz25_4
                try clear hfz25_5
                try clear hfz25_6
                try clear hfz25_7
                try clear hfz25_8
                try clear hfz25_9
                try clear hfz26_0
                try clear hfz26_1
                try clear hfz26_10
                try clear hfz26_11
                try clear hfz26_12
                try clear hfz26_13
                try clear hfz26_14
                try clear hfz26_2
                try clear hfz26_3
                try clear hfz26_4
                try clear hfz26_5
                try clear hfz26_6
                try clear hfz26_7
                try clear hfz26_8
                try clear hfz26_9
                try clear hfz27_0
                try clear hfz27_1
                try clear hfz27_10
                try clear hfz27_11
                try clear hfz27_12
                try clear hfz27_13
                try clear hfz27_14
                try clear hfz27_2
                try clear hfz27_3
                try clear hfz27_4
                try clear hfz27_5
                try clear hfz27_6
                try clear hfz27_7
                try clear hfz27_8
                try clear hfz27_9
                try clear hfz30_0
                try clear hfz30_1
                try clear hfz30_10
                try clear hfz30_11
                try clear hfz30_12
                try clear hfz30_13
                try clear hfz30_14
                try clear hfz30_2
                try clear hfz30_3
                try clear hfz30_4
                try clear hfz30_5
                try clear hfz30_6
                try clear hfz30_7
                try clear hfz30_8
                try clear hfz30_9
                try clear hfz31_0
                try clear hfz31_1
                try clear hfz31_10
                try clear hfz31_11
                try clear hfz31_12
                try clear hfz31_13
                try clear hfz31_14
                try clear hfz31_2
                try clear hfz31_3
                try clear hfz31_4
                try clear hfz31_5
                try clear hfz31_6
                try clear hfz31_7
                try clear hfz31_8
                try clear hfz31_9
                try clear hfz6_0
                try clear hfz6_1
                try clear hfz6_10
                try clear hfz6_11
                try clear hfz6_12
                try clear hfz6_13
                try clear hfz6_14
                try clear hfz6_2
                try clear hfz6_3
                try clear hfz6_4
                try clear hfz6_5
                try clear hfz6_6
                try clear hfz6_7
                try clear hfz6_8
                try clear hfz6_9
                try clear hfz8_0
                try clear hfz8_1
                try clear hfz8_10
                try clear hfz8_11
                try clear hfz8_12
                try clear hfz8_13
                try clear hfz8_14
                try clear hfz8_2
                try clear hfz8_3
                try clear hfz8_4
                try clear hfz8_5
                try clear hfz8_6
                try clear hfz8_7
                try clear hfz8_8
                try clear hfz8_9
                try clear hx241_0
                try clear hx241_1
                try clear hx243_0
                try clear hx243_1
                try clear hx244_0
                try clear hx244_1
                try clear p2
                try clear p24
                try clear p241
                try clear p243
                try clear p244
                try clear p6
                try clear q2
                try clear q24
                try clear q241
                try clear q243
                try clear q244
                obtain ⟨kq, x66_27, rfl, HA, HJ27, BK237, HB⟩ := hcut
                cases kq with
                | zero => exact absurd HA.out (by simp [rampartlaw16_EdgeLast.j2])
                | succ kj27 =>
                  have H := HA.out
                  clear HA
                  simp only [rampartlaw16_EdgeLast.j2] at H
                  by_cases c32 : x66_27 = true
                  · subst c32
                    have H1 : (if 0 ≤ x8_2 then (if x8_2 < (l0_10.length : Int) then ((rampartref03_Before.f t240 ((rd_T49 l0_10 x8_2).f1)).bind fun t247 => (if t247 = true then (some false) else (rampartlaw16_EdgeLast.l1 kj27 t240 x4_1 x5_1 (wrap64 (x8_2 + 1)) a0_0 a0_1 a0_2 a0_3 a0_4 a0_5 a0_6 a0_7 a0_8 a0_9 l0_10 a0_11 a0_12 a0_13 a0_14))) else (none)) else (none)) = some true := by rw [if_pos rfl] at H; exact H
                    clear H
                    have H := H1
                    clear H1
                    by_cases c33 : 0 ≤ x8_2
                    · rw [if_pos c33] at H
                      have c33b0 : decide (0 ≤ x8_2) = true := decide_eq_true c33
                      clear c33
                      by_cases c34 : x8_2 < (l0_10.length : Int)
                      · rw [if_pos c34] at H
                        have c34b0 : decide (x8_2 < (l0_10.length : Int)) = true := decide_eq_true c34
                        clear c34
                        replace H := Option.bind_eq_some_iff.mp H
                        obtain ⟨t247, A350, H⟩ := H
                        replace H : (if t247 = true then (some false) else (rampartlaw16_EdgeLast.l1 kj27 t240 x4_1 x5_1 (wrap64 (x8_2 + 1)) a0_0 a0_1 a0_2 a0_3 a0_4 a0_5 a0_6 a0_7 a0_8 a0_9 l0_10 a0_11 a0_12 a0_13 a0_14)) = some true := H
                        have A35 := Aside0.mk A350
                        clear A350
                        by_cases c36 : t247 = true
                        · subst c36
                          have H1 : (some false) = some true := by rw [if_pos rfl] at H; exact H
                          clear H
                          have H := H1
                          clear H1
                          exact absurd H (by simp)
                        · replace c36 := Bool.eq_false_iff.mpr c36
                          subst c36
                          have H1 : (rampartlaw16_EdgeLast.l1 kj27 t240 x4_1 x5_1 (wrap64 (x8_2 + 1)) a0_0 a0_1 a0_2 a0_3 a0_4 a0_5 a0_6 a0_7 a0_8 a0_9 l0_10 a0_11 a0_12 a0_13 a0_14) = some true := by rw [if_neg (show ¬ (false = true) by decide)] at H; exact H
                          clear H
                          have H := H1
                          clear H1
                          have H' := Aside0.mk H
                          clear H
                          have hcz37_0 : wc.cell? ⟨gb237, 0, none⟩ = some (.int .i64 a0_0) := (blk_cell BK237.out 0).trans rfl
                          have hcz37_1 : wc.cell? ⟨gb237, 1, none⟩ = some (.int .i64 a0_1) := (blk_cell BK237.out 1).trans rfl
                          have hcz37_2 : wc.cell? ⟨gb237, 2, none⟩ = some (.int .u32 a0_2) := (blk_cell BK237.out 2).trans rfl
                          have hcz37_3 : wc.cell? ⟨gb237, 3, none⟩ = some (.int .u32 a0_3) := (blk_cell BK237.out 3).trans rfl
                          have hcz37_4 : wc.cell? ⟨gb237, 4, none⟩ = some (.int .i64 a0_4) := (blk_cell BK237.out 4).trans rfl
                          have hcz37_5 : wc.cell? ⟨gb237, 5, none⟩ = some (.int .i64 a0_5) := (blk_cell BK237.out 5).trans rfl
                          have hcz37_6 : wc.cell? ⟨gb237, 6, none⟩ = some (.int .i64 a0_6) := (blk_cell BK237.out 6).trans rfl
                          have hcz37_7 : wc.cell? ⟨gb237, 7, none⟩ = some (.int .i64 a0_7) := (blk_cell BK237.out 7).trans rfl
                          have hcz37_8 : wc.cell? ⟨gb237, 8, none⟩ = some (.int .i64 a0_8) := (blk_cell BK237.out 8).trans rfl
                          have hcz37_9 : wc.cell? ⟨gb237, 9, none⟩ = some (.bool a0_9) := (blk_cell BK237.out 9).trans rfl
                          have hcz37_10 : wc.cell? ⟨gb237, 10, none⟩ = some (.slice A0_10 l0_10.length c0_10) := (blk_cell BK237.out 10).trans rfl
                          have hcz37_11 : wc.cell? ⟨gb237, 11, none⟩ = some (.bool a0_11) := (blk_cell BK237.out 11).trans rfl
                          have hcz37_12 : wc.cell? ⟨gb237, 12, none⟩ = some (.int .u32 a0_12) := (blk_cell BK237.out 12).trans rfl
                          have hcz37_13 : wc.cell? ⟨gb237, 13, none⟩ = some (.int .u32 a0_13) := (blk_cell BK237.out 13).trans rfl
                          have hcz37_14 : wc.cell? ⟨gb237, 14, none⟩ = some (.string a0_14) := (blk_cell BK237.out 14).trans rfl
                          have hfz37_0 := blk_frozen BK237.out 0
                          have hfz37_1 := blk_frozen BK237.out 1
                          have hfz37_2 := blk_frozen BK237.out 2
                          have hfz37_3 := blk_frozen BK237.out 3
                          have hfz37_4 := blk_frozen BK237.out 4
                          have hfz37_5 := blk_frozen BK237.out 5
                          have hfz37_6 := blk_frozen BK237.out 6
                          have hfz37_7 := blk_frozen BK237.out 7
                          have hfz37_8 := blk_frozen BK237.out 8
                          have hfz37_9 := blk_frozen BK237.out 9
                          have hfz37_10 := blk_frozen BK237.out 10
                          have hfz37_11 := blk_frozen BK237.out 11
                          have hfz37_12 := blk_frozen BK237.out 12
                          have hfz37_13 := blk_frozen BK237.out 13
                          have hfz37_14 := blk_frozen BK237.out 14
                          have p246 : 0 ≤ (x8_2 : Int) := of_decide_eq_true (by first | (with_reducible assumption) | assumption)
                          have q246 : x8_2 < (l0_10.length : Int) := of_decide_eq_true (by first | (with_reducible assumption) | assumption)
                          obtain ⟨ad246, e246, hx246_0, hx246_1⟩ := at_T49 HR0_10.out x8_2 p246 q246
                          cases e246
                          replace hx246_0 := (HB.out.cell (World.block_lt_of_cell? w _ hx246_0)).trans hx246_0
                          replace hx246_1 := (HB.out.cell (World.block_lt_of_cell? w _ hx246_1)).trans hx246_1
                          replace p246 := eq_true p246
                          replace q246 := eq_true q246
                          go_wp2_with (first | (go_at_call 17; (with_reducible refine (rampartref03_Before.calls t240 ((rd_T49 l0_10 x8_2).f1) false _ A35.out).mono ?_); rintro e w' ⟨rfl, ⟨nd, rfl⟩⟩; (try first | exact ⟨rfl, _, World.drewN_drewN _ _ _⟩ | exact ⟨rfl, _, Eq.trans (World.drewN_drewN _ _ _) (congrArg (World.drewN _) (Nat.add_assoc _ _ _))⟩)))
                          repeat (go_quiet (first | (go_at_call 17; (with_reducible refine (rampartref03_Before.calls t240 ((rd_T49 l0_10 x8_2).f1) false _ A35.out).mono ?_); rintro e w' ⟨rfl, ⟨nd, rfl⟩⟩; (try first | exact ⟨rfl, _, World.drewN_drewN _ _ _⟩ | exact ⟨rfl, _, Eq.trans (World.drewN_drewN _ _ _) (congrArg (World.drewN _) (Nat.add_assoc _ _ _))⟩))); try go_wp2_with (first | (go_at_call 17; (with_reducible refine (rampartref03_Before.calls t240 ((rd_T49 l0_10 x8_2).f1) false _ A35.out).mono ?_); rintro e w' ⟨rfl, ⟨nd, rfl⟩⟩; (try first | exact ⟨rfl, _, World.drewN_drewN _ _ _⟩ | exact ⟨rfl, _, Eq.trans (World.drewN_drewN _ _ _) (congrArg (World.drewN _) (Nat.add_assoc _ _ _))⟩))))
                          go_roundg kj27
                          case measure => have := HK1.out; have := HK2.out; have := HJ27.out; omega
                          case rel => exact ⟨(wrap64 (x8_2 + 1)), (by first | rfl | (simp; done) | (simp [*]; done)), H', ⟨by have := HK1.out; have := HK2.out; have := HJ27.out; omega⟩, ⟨by (with_reducible repeat (first | refine blk_drewN ?_ _ | refine blk_drew ?_ | refine blk_alloc ?_ _)); exact BK237.out⟩, ⟨by repeat (first | (with_reducible first | exact HB.out | apply below_alloc | apply pw_below_drewN | apply below_drew1 | refine below_set ?_ GE237.out) | exact HB.out)⟩⟩
                      · rw [if_neg c34] at H
                        exact absurd H (by simp)
                    · rw [if_neg c33] at H
                      exact absurd H (by simp)
                  · replace c32 := Bool.eq_false_iff.mpr c32
                    subst c32
                    have H1 : (if x4_1 = true then (if x5_1 = true then ((rampartref03_Upto.f a0_3 t240).bind fun t248 => (if t248 = true then ((rampartlaw16_known.f).bind fun t249 => (some t249)) else (some false))) else ((rampartlaw16_known.f).bind fun t250 => (some t250))) else (some false)) = some true := by rw [if_neg (show ¬ (false = true) by decide)] at H; exact H
                    clear H
                    have H := H1
                    clear H1
                    by_cases c38 : x4_1 = true
                    · subst c38
                      have H1 : (if x5_1 = true then ((rampartref03_Upto.f a0_3 t240).bind fun t248 => (if t248 = true then ((rampartlaw16_known.f).bind fun t249 => (some t249)) else (some false))) else ((rampartlaw16_known.f).bind fun t250 => (some t250))) = some true := by rw [if_pos rfl] at H; exact H
                      clear H
                      have H := H1
                      clear H1
                      by_cases c39 : x5_1 = true
                      · subst c39
                        have H1 : ((rampartref03_Upto.f a0_3 t240).bind fun t248 => (if t248 = true then ((rampartlaw16_known.f).bind fun t249 => (some t249)) else (some false))) = some true := by rw [if_pos rfl] at H; exact H
                        clear H
                        have H := H1
                        clear H1
                        replace H := Option.bind_eq_some_iff.mp H
                        obtain ⟨t248, A400, H⟩ := H
                        replace H : (if t248 = true then ((rampartlaw16_known.f).bind fun t249 => (some t249)) else (some false)) = some true := H
                        have A40 := Aside0.mk A400
                        clear A400
                        by_cases c41 : t248 = true
                        · subst c41
                          have H1 : ((rampartlaw16_known.f).bind fun t249 => (some t249)) = some true := by rw [if_pos rfl] at H; exact H
                          clear H
                          have H := H1
                          clear H1
                          replace H := Option.bind_eq_some_iff.mp H
                          obtain ⟨t249, A420, H⟩ := H
                          replace H : (some t249) = some true := H
                          have A42 := Aside0.mk A420
                          clear A420
                          have hrt_ := Option.some.inj H
                          have hcz43_0 : wc.cell? ⟨gb237, 0, none⟩ = some (.int .i64 a0_0) := (blk_cell BK237.out 0).trans rfl
                          have hcz43_1 : wc.cell? ⟨gb237, 1, none⟩ = some (.int .i64 a0_1) := (blk_cell BK237.out 1).trans rfl
                          have hcz43_2 : wc.cell? ⟨gb237, 2, none⟩ = some (.int .u32 a0_2) := (blk_cell BK237.out 2).trans rfl
                          have hcz43_3 : wc.cell? ⟨gb237, 3, none⟩ = some (.int .u32 a0_3) := (blk_cell BK237.out 3).trans rfl
                          have hcz43_4 : wc.cell? ⟨gb237, 4, none⟩ = some (.int .i64 a0_4) := (blk_cell BK237.out 4).trans rfl
                          have hcz43_5 : wc.cell? ⟨gb237, 5, none⟩ = some (.int .i64 a0_5) := (blk_cell BK237.out 5).trans rfl
                          have hcz43_6 : wc.cell? ⟨gb237, 6, none⟩ = some (.int .i64 a0_6) := (blk_cell BK237.out 6).trans rfl
                          have hcz43_7 : wc.cell? ⟨gb237, 7, none⟩ = some (.int .i64 a0_7) := (blk_cell BK237.out 7).trans rfl
                          have hcz43_8 : wc.cell? ⟨gb237, 8, none⟩ = some (.int .i64 a0_8) := (blk_cell BK237.out 8).trans rfl
                          have hcz43_9 : wc.cell? ⟨gb237, 9, none⟩ = some (.bool a0_9) := (blk_cell BK237.out 9).trans rfl
                          have hcz43_10 : wc.cell? ⟨gb237, 10, none⟩ = some (.slice A0_10 l0_10.length c0_10) := (blk_cell BK237.out 10).trans rfl
                          have hcz43_11 : wc.cell? ⟨gb237, 11, none⟩ = some (.bool a0_11) := (blk_cell BK237.out 11).trans rfl
                          have hcz43_12 : wc.cell? ⟨gb237, 12, none⟩ = some (.int .u32 a0_12) := (blk_cell BK237.out 12).trans rfl
                          have hcz43_13 : wc.cell? ⟨gb237, 13, none⟩ = some (.int .u32 a0_13) := (blk_cell BK237.out 13).trans rfl
                          have hcz43_14 : wc.cell? ⟨gb237, 14, none⟩ = some (.string a0_14) := (blk_cell BK237.out 14).trans rfl
                          have hfz43_0 := blk_frozen BK237.out 0
                          have hfz43_1 := blk_frozen BK237.out 1
                          have hfz43_2 := blk_frozen BK237.out 2
                          have hfz43_3 := blk_frozen BK237.out 3
                          have hfz43_4 := blk_frozen BK237.out 4
                          have hfz43_5 := blk_frozen BK237.out 5
                          have hfz43_6 := blk_frozen BK237.out 6
                          have hfz43_7 := blk_frozen BK237.out 7
                          have hfz43_8 := blk_frozen BK237.out 8
                          have hfz43_9 := blk_frozen BK237.out 9
                          have hfz43_10 := blk_frozen BK237.out 10
                          have hfz43_11 := blk_frozen BK237.out 11
                          have hfz43_12 := blk_frozen BK237.out 12
                          have hfz43_13 := blk_frozen BK237.out 13
                          have hfz43_14 := blk_frozen BK237.out 14
                          go_wp2_with (first | (go_at_call 19; (with_reducible refine (rampartref03_Upto.calls a0_3 t240 true _ A40.out).mono ?_); rintro e w' ⟨rfl, ⟨nd, rfl⟩⟩; (try first | exact ⟨rfl, _, World.drewN_drewN _ _ _⟩ | exact ⟨rfl, _, Eq.trans (World.drewN_drewN _ _ _) (congrArg (World.drewN _) (Nat.add_assoc _ _ _))⟩)) | (go_at_call 30; (with_reducible refine (rampartlaw16_known.calls  t249 _ A42.out).mono ?_); rintro e w44 ⟨rfl, hb⟩; have n0_ := Aside0.mk (blk_below (g := gb237) (o := .cells #[.int .i64 a0_0, .int .i64 a0_1, .int .u32 a0_2, .int .u32 a0_3, .int .i64 a0_4, .int .i64 a0_5, .int .i64 a0_6, .int .i64 a0_7, .int .i64 a0_8, .bool a0_9, .slice A0_10 l0_10.length c0_10, .bool a0_11, .int .u32 a0_12, .int .u32 a0_13, .string a0_14] 38 (0, 0)) (by (with_reducible repeat (first | refine blk_drewN ?_ _ | refine blk_drew ?_ | refine blk_alloc ?_ _)); exact BK237.out) hb); have n1_ := Aside0.mk (below_step (by repeat (first | (with_reducible first | exact HB.out | apply below_alloc | apply pw_below_drewN | apply below_drew1 | refine below_set ?_ GE237.out) | exact HB.out)) hb); clear BK237; clear HB; have BK237 := n0_; have HB := n1_; clear n0_ n1_; (try clear hb); (try clear hb2); (try clear hk); (try clear hi)))
                          repeat (go_quiet (first | (go_at_call 19; (with_reducible refine (rampartref03_Upto.calls a0_3 t240 true _ A40.out).mono ?_); rintro e w' ⟨rfl, ⟨nd, rfl⟩⟩; (try first | exact ⟨rfl, _, World.drewN_drewN _ _ _⟩ | exact ⟨rfl, _, Eq.trans (World.drewN_drewN _ _ _) (congrArg (World.drewN _) (Nat.add_assoc _ _ _))⟩)) | (go_at_call 30; (with_reducible refine (rampartlaw16_known.calls  t249 _ A42.out).mono ?_); rintro e w44 ⟨rfl, hb⟩; have n0_ := Aside0.mk (blk_below (g := gb237) (o := .cells #[.int .i64 a0_0, .int .i64 a0_1, .int .u32 a0_2, .int .u32 a0_3, .int .i64 a0_4, .int .i64 a0_5, .int .i64 a0_6, .int .i64 a0_7, .int .i64 a0_8, .bool a0_9, .slice A0_10 l0_10.length c0_10, .bool a0_11, .int .u32 a0_12, .int .u32 a0_13, .string a0_14] 38 (0, 0)) (by (with_reducible repeat (first | refine blk_drewN ?_ _ | refine blk_drew ?_ | refine blk_alloc ?_ _)); exact BK237.out) hb); have n1_ := Aside0.mk (below_step (by repeat (first | (with_reducible first | exact HB.out | apply below_alloc | apply pw_below_drewN | apply below_drew1 | refine below_set ?_ GE237.out) | exact HB.out)) hb); clear BK237; clear HB; have BK237 := n0_; have HB := n1_; clear n0_ n1_; (try clear hb); (try clear hb2); (try clear hk); (try clear hi))); try go_wp2_with (first | (go_at_call 19; (with_reducible refine (rampartref03_Upto.calls a0_3 t240 true _ A40.out).mono ?_); rintro e w' ⟨rfl, ⟨nd, rfl⟩⟩; (try first | exact ⟨rfl, _, World.drewN_drewN _ _ _⟩ | exact ⟨rfl, _, Eq.trans (World.drewN_drewN _ _ _) (congrArg (World.drewN _) (Nat.add_assoc _ _ _))⟩)) | (go_at_call 30; (with_reducible refine (rampartlaw16_known.calls  t249 _ A42.out).mono ?_); rintro e w44 ⟨rfl, hb⟩; have n0_ := Aside0.mk (blk_below (g := gb237) (o := .cells #[.int .i64 a0_0, .int .i64 a0_1, .int .u32 a0_2, .int .u32 a0_3, .int .i64 a0_4, .int .i64 a0_5, .int .i64 a0_6, .int .i64 a0_7, .int .i64 a0_8, .bool a0_9, .slice A0_10 l0_10.length c0_10, .bool a0_11, .int .u32 a0_12, .int .u32 a0_13, .string a0_14] 38 (0, 0)) (by (with_reducible repeat (first | refine blk_drewN ?_ _ | refine blk_drew ?_ | refine blk_alloc ?_ _)); exact BK237.out) hb); have n1_ := Aside0.mk (below_step (by repeat (first | (with_reducible first | exact HB.out | apply below_alloc | apply pw_below_drewN | apply below_drew1 | refine below_set ?_ GE237.out) | exact HB.out)) hb); clear BK237; clear HB; have BK237 := n0_; have HB := n1_; clear n0_ n1_; (try clear hb); (try clear hb2); (try clear hk); (try clear hi))))
                          go_ret
                          exact ⟨by first | rfl | (simp [errW_none, errW_some] <;> rfl) | (simp [*, errW_none, errW_some] <;> rfl), by repeat (first | (with_reducible first | exact HB.out | apply below_alloc | apply pw_below_drewN | apply below_drew1 | refine below_set ?_ GE237.out) | exact HB.out)⟩
                        · replace c41 := Bool.eq_false_iff.mpr c41
                          subst c41
                          have H1 : (some false) = some true := by rw [if_neg (show ¬ (false = true) by decide)] at H; exact H
                          clear H
                          have H := H1
                          clear H1
                          exact absurd H (by simp)
                      · replace c39 := Bool.eq_false_iff.mpr c39
                        subst c39
                        have H1 : ((rampartlaw16_known.f).bind fun t250 => (some t250)) = some true := by rw [if_neg (show ¬ (false = true) by decide)] at H; exact H
                        clear H
                        have H := H1
                        clear H1
                        replace H := Option.bind_eq_some_iff.mp H
                        obtain ⟨t250, A450, H⟩ := H
                        replace H : (some t250) = some true := H
                        have A45 := Aside0.mk A450
                        clear A450
                        have hrt_ := Option.some.inj H
                        go_wp2_with (first | (go_at_call 30; (with_reducible refine (rampartlaw16_known.calls  t250 _ A45.out).mono ?_); rintro e w46 ⟨rfl, hb⟩; have n0_ := Aside0.mk (blk_below (g := gb237) (o := .cells #[.int .i64 a0_0, .int .i64 a0_1, .int .u32 a0_2, .int .u32 a0_3, .int .i64 a0_4, .int .i64 a0_5, .int .i64 a0_6, .int .i64 a0_7, .int .i64 a0_8, .bool a0_9, .slice A0_10 l0_10.length c0_10, .bool a0_11, .int .u32 a0_12, .int .u32 a0_13, .string a0_14] 38 (0, 0)) (by (with_reducible repeat (first | refine blk_drewN ?_ _ | refine blk_drew ?_ | refine blk_alloc ?_ _)); exact BK237.out) hb); have n1_ := Aside0.mk (below_step (by repeat (first | (with_reducible first | exact HB.out | apply below_alloc | apply pw_below_drewN | apply below_drew1 | refine below_set ?_ GE237.out) | exact HB.out)) hb); clear BK237; clear HB; have BK237 := n0_; have HB := n1_; clear n0_ n1_; (try clear hb); (try clear hb2); (try clear hk); (try clear hi)))
                        repeat (go_quiet (first | (go_at_call 30; (with_reducible refine (rampartlaw16_known.calls  t250 _ A45.out).mono ?_); rintro e w46 ⟨rfl, hb⟩; have n0_ := Aside0.mk (blk_below (g := gb237) (o := .cells #[.int .i64 a0_0, .int .i64 a0_1, .int .u32 a0_2, .int .u32 a0_3, .int .i64 a0_4, .int .i64 a0_5, .int .i64 a0_6, .int .i64 a0_7, .int .i64 a0_8, .bool a0_9, .slice A0_10 l0_10.length c0_10, .bool a0_11, .int .u32 a0_12, .int .u32 a0_13, .string a0_14] 38 (0, 0)) (by (with_reducible repeat (first | refine blk_drewN ?_ _ | refine blk_drew ?_ | refine blk_alloc ?_ _)); exact BK237.out) hb); have n1_ := Aside0.mk (below_step (by repeat (first | (with_reducible first | exact HB.out | apply below_alloc | apply pw_below_drewN | apply below_drew1 | refine below_set ?_ GE237.out) | exact HB.out)) hb); clear BK237; clear HB; have BK237 := n0_; have HB := n1_; clear n0_ n1_; (try clear hb); (try clear hb2); (try clear hk); (try clear hi))); try go_wp2_with (first | (go_at_call 30; (with_reducible refine (rampartlaw16_known.calls  t250 _ A45.out).mono ?_); rintro e w46 ⟨rfl, hb⟩; have n0_ := Aside0.mk (blk_below (g := gb237) (o := .cells #[.int .i64 a0_0, .int .i64 a0_1, .int .u32 a0_2, .int .u32 a0_3, .int .i64 a0_4, .int .i64 a0_5, .int .i64 a0_6, .int .i64 a0_7, .int .i64 a0_8, .bool a0_9, .slice A0_10 l0_10.length c0_10, .bool a0_11, .int .u32 a0_12, .int .u32 a0_13, .string a0_14] 38 (0, 0)) (by (with_reducible repeat (first | refine blk_drewN ?_ _ | refine blk_drew ?_ | refine blk_alloc ?_ _)); exact BK237.out) hb); have n1_ := Aside0.mk (below_step (by repeat (first | (with_reducible first | exact HB.out | apply below_alloc | apply pw_below_drewN | apply below_drew1 | refine below_set ?_ GE237.out) | exact HB.out)) hb); clear BK237; clear HB; have BK237 := n0_; have HB := n1_; clear n0_ n1_; (try clear hb); (try clear hb2); (try clear hk); (try clear hi))))
                        go_ret
                        exact ⟨by first | rfl | (simp [errW_none, errW_some] <;> rfl) | (simp [*, errW_none, errW_some] <;> rfl), by repeat (first | (with_reducible first | exact HB.out | apply below_alloc | apply pw_below_drewN | apply below_drew1 | refine below_set ?_ GE237.out) | exact HB.out)⟩
                    · replace c38 := Bool.eq_false_iff.mpr c38
                      subst c38
                      have H1 : (some false) = some true := by rw [if_neg (show ¬ (false = true) by decide)] at H; exact H
                      clear H
                      have H := H1
                      clear H1
                      exact absurd H (by simp)
  · replace c3 := Bool.eq_false_iff.mpr c3
    subst c3
    have H1 : ((rampartlaw16_known.f).bind fun t239 => (some t239)) = some true := by rw [if_neg (show ¬ (false = true) by decide)] at H; exact H
    clear H
    have H := H1
    clear H1
    replace H := Option.bind_eq_some_iff.mp H
    obtain ⟨t239, A470, H⟩ := H
    replace H : (some t239) = some true := H
    have A47 := Aside0.mk A470
    clear A470
    have hrt_ := Option.some.inj H
    go_enter Try.func12, Try.ntmps12
    go_wp2_with (first | ((with_reducible refine gate_dst (N := 1) rfl ?_); refine box_event ?hg (N := 1) ?hd (cs := #[.int .i64 a0_0, .int .i64 a0_1, .int .u32 a0_2, .int .u32 a0_3, .int .i64 a0_4, .int .i64 a0_5, .int .i64 a0_6, .int .i64 a0_7, .int .i64 a0_8, .bool a0_9, .slice A0_10 l0_10.length c0_10, .bool a0_11, .int .u32 a0_12, .int .u32 a0_13, .string a0_14]) (t := 38) ?hr ?_; (case hd => rfl); (case hg => rfl); (case hr => first | (go_simp; done) | (go_simp; rfl)); intro gb237 hg w48 hbox hb; have n0_ := Aside0.mk (below_step (by repeat (first | (with_reducible first | exact HB.out | apply below_alloc | apply pw_below_drewN | apply below_drew1) | exact HB.out)) hb); have n1_ := Aside0.mk (hbox); have n2_ := Aside0.mk ((by rw [hg]; exact (below_size (by repeat (first | (with_reducible first | exact HB.out | apply below_alloc | apply pw_below_drewN | apply below_drew1) | exact HB.out))) : w.heap.size ≤ gb237)); have n3_ := Aside0.mk ((by rw [hg]; exact (below_size (by repeat (first | (with_reducible first | exact HB.out | apply below_alloc | apply pw_below_drewN | apply below_drew1) | exact HB.out))) : w.heap.size ≤ gb237)); clear HB; have HB := n0_; have BK237 := n1_; have GW237 := n2_; have GE237 := n3_; clear n0_ n1_ n2_ n3_; clear hb hbox hg; have hcz49_0 : w48.cell? ⟨gb237, 0, none⟩ = some (.int .i64 a0_0) := (blk_cell BK237.out 0).trans rfl; have hcz49_1 : w48.cell? ⟨gb237, 1, none⟩ = some (.int .i64 a0_1) := (blk_cell BK237.out 1).trans rfl; have hcz49_2 : w48.cell? ⟨gb237, 2, none⟩ = some (.int .u32 a0_2) := (blk_cell BK237.out 2).trans rfl; have hcz49_3 : w48.cell? ⟨gb237, 3, none⟩ = some (.int .u32 a0_3) := (blk_cell BK237.out 3).trans rfl; have hcz49_4 : w48.cell? ⟨gb237, 4, none⟩ = some (.int .i64 a0_4) := (blk_cell BK237.out 4).trans rfl; have hcz49_5 : w48.cell? ⟨gb237, 5, none⟩ = some (.int .i64 a0_5) := (blk_cell BK237.out 5).trans rfl; have hcz49_6 : w48.cell? ⟨gb237, 6, none⟩ = some (.int .i64 a0_6) := (blk_cell BK237.out 6).trans rfl; have hcz49_7 : w48.cell? ⟨gb237, 7, none⟩ = some (.int .i64 a0_7) := (blk_cell BK237.out 7).trans rfl; have hcz49_8 : w48.cell? ⟨gb237, 8, none⟩ = some (.int .i64 a0_8) := (blk_cell BK237.out 8).trans rfl; have hcz49_9 : w48.cell? ⟨gb237, 9, none⟩ = some (.bool a0_9) := (blk_cell BK237.out 9).trans rfl; have hcz49_10 : w48.cell? ⟨gb237, 10, none⟩ = some (.slice A0_10 l0_10.length c0_10) := (blk_cell BK237.out 10).trans rfl; have hcz49_11 : w48.cell? ⟨gb237, 11, none⟩ = some (.bool a0_11) := (blk_cell BK237.out 11).trans rfl; have hcz49_12 : w48.cell? ⟨gb237, 12, none⟩ = some (.int .u32 a0_12) := (blk_cell BK237.out 12).trans rfl; have hcz49_13 : w48.cell? ⟨gb237, 13, none⟩ = some (.int .u32 a0_13) := (blk_cell BK237.out 13).trans rfl; have hcz49_14 : w48.cell? ⟨gb237, 14, none⟩ = some (.string a0_14) := (blk_cell BK237.out 14).trans rfl; have hfz49_0 := blk_frozen BK237.out 0; have hfz49_1 := blk_frozen BK237.out 1; have hfz49_2 := blk_frozen BK237.out 2; have hfz49_3 := blk_frozen BK237.out 3; have hfz49_4 := blk_frozen BK237.out 4; have hfz49_5 := blk_frozen BK237.out 5; have hfz49_6 := blk_frozen BK237.out 6; have hfz49_7 := blk_frozen BK237.out 7; have hfz49_8 := blk_frozen BK237.out 8; have hfz49_9 := blk_frozen BK237.out 9; have hfz49_10 := blk_frozen BK237.out 10; have hfz49_11 := blk_frozen BK237.out 11; have hfz49_12 := blk_frozen BK237.out 12; have hfz49_13 := blk_frozen BK237.out 13; have hfz49_14 := blk_frozen BK237.out 14) | (go_at_call 29; (with_reducible refine (rampartlaw16_light.calls a0_0 a0_1 a0_2 a0_3 a0_4 a0_5 a0_6 a0_7 a0_8 a0_9 _ _ l0_10 a0_11 a0_12 a0_13 a0_14 false _ ?side1 ?side2 A2.out).mono ?_); (case side1 => repeat (first | exact (Kd.C_below HR0_10.out HB.out) | (with_reducible refine Kd.C_alloc ?_ _) | (with_reducible refine Kd.C_drewN ?_ _) | (with_reducible refine Kd.C_drew ?_))); (case side2 => exact HC0_10.out); rintro e w50 ⟨rfl, hb⟩; have n0_ := Aside0.mk (blk_below (g := gb237) (o := .cells #[.int .i64 a0_0, .int .i64 a0_1, .int .u32 a0_2, .int .u32 a0_3, .int .i64 a0_4, .int .i64 a0_5, .int .i64 a0_6, .int .i64 a0_7, .int .i64 a0_8, .bool a0_9, .slice A0_10 l0_10.length c0_10, .bool a0_11, .int .u32 a0_12, .int .u32 a0_13, .string a0_14] 38 (0, 0)) (by (with_reducible repeat (first | refine blk_drewN ?_ _ | refine blk_drew ?_ | refine blk_alloc ?_ _)); exact BK237.out) hb); have n1_ := Aside0.mk (below_step (by repeat (first | (with_reducible first | exact HB.out | apply below_alloc | apply pw_below_drewN | apply below_drew1 | refine below_set ?_ GE237.out) | exact HB.out)) hb); clear BK237; clear HB; have BK237 := n0_; have HB := n1_; clear n0_ n1_; (try clear hb); (try clear hb2); (try clear hk); (try clear hi)) | (go_at_call 30; (with_reducible refine (rampartlaw16_known.calls  t239 _ A47.out).mono ?_); rintro e w51 ⟨rfl, hb⟩; have n0_ := Aside0.mk (blk_below (g := gb237) (o := .cells #[.int .i64 a0_0, .int .i64 a0_1, .int .u32 a0_2, .int .u32 a0_3, .int .i64 a0_4, .int .i64 a0_5, .int .i64 a0_6, .int .i64 a0_7, .int .i64 a0_8, .bool a0_9, .slice A0_10 l0_10.length c0_10, .bool a0_11, .int .u32 a0_12, .int .u32 a0_13, .string a0_14] 38 (0, 0)) (by (with_reducible repeat (first | refine blk_drewN ?_ _ | refine blk_drew ?_ | refine blk_alloc ?_ _)); exact BK237.out) hb); have n1_ := Aside0.mk (below_step (by repeat (first | (with_reducible first | exact HB.out | apply below_alloc | apply pw_below_drewN | apply below_drew1 | refine below_set ?_ GE237.out) | exact HB.out)) hb); clear BK237; clear HB; have BK237 := n0_; have HB := n1_; clear n0_ n1_; (try clear hb); (try clear hb2); (try clear hk); (try clear hi)))
    repeat (go_quiet (first | ((with_reducible refine gate_dst (N := 1) rfl ?_); refine box_event ?hg (N := 1) ?hd (cs := #[.int .i64 a0_0, .int .i64 a0_1, .int .u32 a0_2, .int .u32 a0_3, .int .i64 a0_4, .int .i64 a0_5, .int .i64 a0_6, .int .i64 a0_7, .int .i64 a0_8, .bool a0_9, .slice A0_10 l0_10.length c0_10, .bool a0_11, .int .u32 a0_12, .int .u32 a0_13, .string a0_14]) (t := 38) ?hr ?_; (case hd => rfl); (case hg => rfl); (case hr => first | (go_simp; done) | (go_simp; rfl)); intro gb237 hg w48 hbox hb; have n0_ := Aside0.mk (below_step (by repeat (first | (with_reducible first | exact HB.out | apply below_alloc | apply pw_below_drewN | apply below_drew1) | exact HB.out)) hb); have n1_ := Aside0.mk (hbox); have n2_ := Aside0.mk ((by rw [hg]; exact (below_size (by repeat (first | (with_reducible first | exact HB.out | apply below_alloc | apply pw_below_drewN | apply below_drew1) | exact HB.out))) : w.heap.size ≤ gb237)); have n3_ := Aside0.mk ((by rw [hg]; exact (below_size (by repeat (first | (with_reducible first | exact HB.out | apply below_alloc | apply pw_below_drewN | apply below_drew1) | exact HB.out))) : w.heap.size ≤ gb237)); clear HB; have HB := n0_; have BK237 := n1_; have GW237 := n2_; have GE237 := n3_; clear n0_ n1_ n2_ n3_; clear hb hbox hg; have hcz49_0 : w48.cell? ⟨gb237, 0, none⟩ = some (.int .i64 a0_0) := (blk_cell BK237.out 0).trans rfl; have hcz49_1 : w48.cell? ⟨gb237, 1, none⟩ = some (.int .i64 a0_1) := (blk_cell BK237.out 1).trans rfl; have hcz49_2 : w48.cell? ⟨gb237, 2, none⟩ = some (.int .u32 a0_2) := (blk_cell BK237.out 2).trans rfl; have hcz49_3 : w48.cell? ⟨gb237, 3, none⟩ = some (.int .u32 a0_3) := (blk_cell BK237.out 3).trans rfl; have hcz49_4 : w48.cell? ⟨gb237, 4, none⟩ = some (.int .i64 a0_4) := (blk_cell BK237.out 4).trans rfl; have hcz49_5 : w48.cell? ⟨gb237, 5, none⟩ = some (.int .i64 a0_5) := (blk_cell BK237.out 5).trans rfl; have hcz49_6 : w48.cell? ⟨gb237, 6, none⟩ = some (.int .i64 a0_6) := (blk_cell BK237.out 6).trans rfl; have hcz49_7 : w48.cell? ⟨gb237, 7, none⟩ = some (.int .i64 a0_7) := (blk_cell BK237.out 7).trans rfl; have hcz49_8 : w48.cell? ⟨gb237, 8, none⟩ = some (.int .i64 a0_8) := (blk_cell BK237.out 8).trans rfl; have hcz49_9 : w48.cell? ⟨gb237, 9, none⟩ = some (.bool a0_9) := (blk_cell BK237.out 9).trans rfl; have hcz49_10 : w48.cell? ⟨gb237, 10, none⟩ = some (.slice A0_10 l0_10.length c0_10) := (blk_cell BK237.out 10).trans rfl; have hcz49_11 : w48.cell? ⟨gb237, 11, none⟩ = some (.bool a0_11) := (blk_cell BK237.out 11).trans rfl; have hcz49_12 : w48.cell? ⟨gb237, 12, none⟩ = some (.int .u32 a0_12) := (blk_cell BK237.out 12).trans rfl; have hcz49_13 : w48.cell? ⟨gb237, 13, none⟩ = some (.int .u32 a0_13) := (blk_cell BK237.out 13).trans rfl; have hcz49_14 : w48.cell? ⟨gb237, 14, none⟩ = some (.string a0_14) := (blk_cell BK237.out 14).trans rfl; have hfz49_0 := blk_frozen BK237.out 0; have hfz49_1 := blk_frozen BK237.out 1; have hfz49_2 := blk_frozen BK237.out 2; have hfz49_3 := blk_frozen BK237.out 3; have hfz49_4 := blk_frozen BK237.out 4; have hfz49_5 := blk_frozen BK237.out 5; have hfz49_6 := blk_frozen BK237.out 6; have hfz49_7 := blk_frozen BK237.out 7; have hfz49_8 := blk_frozen BK237.out 8; have hfz49_9 := blk_frozen BK237.out 9; have hfz49_10 := blk_frozen BK237.out 10; have hfz49_11 := blk_frozen BK237.out 11; have hfz49_12 := blk_frozen BK237.out 12; have hfz49_13 := blk_frozen BK237.out 13; have hfz49_14 := blk_frozen BK237.out 14) | (go_at_call 29; (with_reducible refine (rampartlaw16_light.calls a0_0 a0_1 a0_2 a0_3 a0_4 a0_5 a0_6 a0_7 a0_8 a0_9 _ _ l0_10 a0_11 a0_12 a0_13 a0_14 false _ ?side1 ?side2 A2.out).mono ?_); (case side1 => repeat (first | exact (Kd.C_below HR0_10.out HB.out) | (with_reducible refine Kd.C_alloc ?_ _) | (with_reducible refine Kd.C_drewN ?_ _) | (with_reducible refine Kd.C_drew ?_))); (case side2 => exact HC0_10.out); rintro e w50 ⟨rfl, hb⟩; have n0_ := Aside0.mk (blk_below (g := gb237) (o := .cells #[.int .i64 a0_0, .int .i64 a0_1, .int .u32 a0_2, .int .u32 a0_3, .int .i64 a0_4, .int .i64 a0_5, .int .i64 a0_6, .int .i64 a0_7, .int .i64 a0_8, .bool a0_9, .slice A0_10 l0_10.length c0_10, .bool a0_11, .int .u32 a0_12, .int .u32 a0_13, .string a0_14] 38 (0, 0)) (by (with_reducible repeat (first | refine blk_drewN ?_ _ | refine blk_drew ?_ | refine blk_alloc ?_ _)); exact BK237.out) hb); have n1_ := Aside0.mk (below_step (by repeat (first | (with_reducible first | exact HB.out | apply below_alloc | apply pw_below_drewN | apply below_drew1 | refine below_set ?_ GE237.out) | exact HB.out)) hb); clear BK237; clear HB; have BK237 := n0_; have HB := n1_; clear n0_ n1_; (try clear hb); (try clear hb2); (try clear hk); (try clear hi)) | (go_at_call 30; (with_reducible refine (rampartlaw16_known.calls  t239 _ A47.out).mono ?_); rintro e w51 ⟨rfl, hb⟩; have n0_ := Aside0.mk (blk_below (g := gb237) (o := .cells #[.int .i64 a0_0, .int .i64 a0_1, .int .u32 a0_2, .int .u32 a0_3, .int .i64 a0_4, .int .i64 a0_5, .int .i64 a0_6, .int .i64 a0_7, .int .i64 a0_8, .bool a0_9, .slice A0_10 l0_10.length c0_10, .bool a0_11, .int .u32 a0_12, .int .u32 a0_13, .string a0_14] 38 (0, 0)) (by (with_reducible repeat (first | refine blk_drewN ?_ _ | refine blk_drew ?_ | refine blk_alloc ?_ _)); exact BK237.out) hb); have n1_ := Aside0.mk (below_step (by repeat (first | (with_reducible first | exact HB.out | apply below_alloc | apply pw_below_drewN | apply below_drew1 | refine below_set ?_ GE237.out) | exact HB.out)) hb); clear BK237; clear HB; have BK237 := n0_; have HB := n1_; clear n0_ n1_; (try clear hb); (try clear hb2); (try clear hk); (try clear hi))); try go_wp2_with (first | ((with_reducible refine gate_dst (N := 1) rfl ?_); refine box_event ?hg (N := 1) ?hd (cs := #[.int .i64 a0_0, .int .i64 a0_1, .int .u32 a0_2, .int .u32 a0_3, .int .i64 a0_4, .int .i64 a0_5, .int .i64 a0_6, .int .i64 a0_7, .int .i64 a0_8, .bool a0_9, .slice A0_10 l0_10.length c0_10, .bool a0_11, .int .u32 a0_12, .int .u32 a0_13, .string a0_14]) (t := 38) ?hr ?_; (case hd => rfl); (case hg => rfl); (case hr => first | (go_simp; done) | (go_simp; rfl)); intro gb237 hg w48 hbox hb; have n0_ := Aside0.mk (below_step (by repeat (first | (with_reducible first | exact HB.out | apply below_alloc | apply pw_below_drewN | apply below_drew1) | exact HB.out)) hb); have n1_ := Aside0.mk (hbox); have n2_ := Aside0.mk ((by rw [hg]; exact (below_size (by repeat (first | (with_reducible first | exact HB.out | apply below_alloc | apply pw_below_drewN | apply below_drew1) | exact HB.out))) : w.heap.size ≤ gb237)); have n3_ := Aside0.mk ((by rw [hg]; exact (below_size (by repeat (first | (with_reducible first | exact HB.out | apply below_alloc | apply pw_below_drewN | apply below_drew1) | exact HB.out))) : w.heap.size ≤ gb237)); clear HB; have HB := n0_; have BK237 := n1_; have GW237 := n2_; have GE237 := n3_; clear n0_ n1_ n2_ n3_; clear hb hbox hg; have hcz49_0 : w48.cell? ⟨gb237, 0, none⟩ = some (.int .i64 a0_0) := (blk_cell BK237.out 0).trans rfl; have hcz49_1 : w48.cell? ⟨gb237, 1, none⟩ = some (.int .i64 a0_1) := (blk_cell BK237.out 1).trans rfl; have hcz49_2 : w48.cell? ⟨gb237, 2, none⟩ = some (.int .u32 a0_2) := (blk_cell BK237.out 2).trans rfl; have hcz49_3 : w48.cell? ⟨gb237, 3, none⟩ = some (.int .u32 a0_3) := (blk_cell BK237.out 3).trans rfl; have hcz49_4 : w48.cell? ⟨gb237, 4, none⟩ = some (.int .i64 a0_4) := (blk_cell BK237.out 4).trans rfl; have hcz49_5 : w48.cell? ⟨gb237, 5, none⟩ = some (.int .i64 a0_5) := (blk_cell BK237.out 5).trans rfl; have hcz49_6 : w48.cell? ⟨gb237, 6, none⟩ = some (.int .i64 a0_6) := (blk_cell BK237.out 6).trans rfl; have hcz49_7 : w48.cell? ⟨gb237, 7, none⟩ = some (.int .i64 a0_7) := (blk_cell BK237.out 7).trans rfl; have hcz49_8 : w48.cell? ⟨gb237, 8, none⟩ = some (.int .i64 a0_8) := (blk_cell BK237.out 8).trans rfl; have hcz49_9 : w48.cell? ⟨gb237, 9, none⟩ = some (.bool a0_9) := (blk_cell BK237.out 9).trans rfl; have hcz49_10 : w48.cell? ⟨gb237, 10, none⟩ = some (.slice A0_10 l0_10.length c0_10) := (blk_cell BK237.out 10).trans rfl; have hcz49_11 : w48.cell? ⟨gb237, 11, none⟩ = some (.bool a0_11) := (blk_cell BK237.out 11).trans rfl; have hcz49_12 : w48.cell? ⟨gb237, 12, none⟩ = some (.int .u32 a0_12) := (blk_cell BK237.out 12).trans rfl; have hcz49_13 : w48.cell? ⟨gb237, 13, none⟩ = some (.int .u32 a0_13) := (blk_cell BK237.out 13).trans rfl; have hcz49_14 : w48.cell? ⟨gb237, 14, none⟩ = some (.string a0_14) := (blk_cell BK237.out 14).trans rfl; have hfz49_0 := blk_frozen BK237.out 0; have hfz49_1 := blk_frozen BK237.out 1; have hfz49_2 := blk_frozen BK237.out 2; have hfz49_3 := blk_frozen BK237.out 3; have hfz49_4 := blk_frozen BK237.out 4; have hfz49_5 := blk_frozen BK237.out 5; have hfz49_6 := blk_frozen BK237.out 6; have hfz49_7 := blk_frozen BK237.out 7; have hfz49_8 := blk_frozen BK237.out 8; have hfz49_9 := blk_frozen BK237.out 9; have hfz49_10 := blk_frozen BK237.out 10; have hfz49_11 := blk_frozen BK237.out 11; have hfz49_12 := blk_frozen BK237.out 12; have hfz49_13 := blk_frozen BK237.out 13; have hfz49_14 := blk_frozen BK237.out 14) | (go_at_call 29; (with_reducible refine (rampartlaw16_light.calls a0_0 a0_1 a0_2 a0_3 a0_4 a0_5 a0_6 a0_7 a0_8 a0_9 _ _ l0_10 a0_11 a0_12 a0_13 a0_14 false _ ?side1 ?side2 A2.out).mono ?_); (case side1 => repeat (first | exact (Kd.C_below HR0_10.out HB.out) | (with_reducible refine Kd.C_alloc ?_ _) | (with_reducible refine Kd.C_drewN ?_ _) | (with_reducible refine Kd.C_drew ?_))); (case side2 => exact HC0_10.out); rintro e w50 ⟨rfl, hb⟩; have n0_ := Aside0.mk (blk_below (g := gb237) (o := .cells #[.int .i64 a0_0, .int .i64 a0_1, .int .u32 a0_2, .int .u32 a0_3, .int .i64 a0_4, .int .i64 a0_5, .int .i64 a0_6, .int .i64 a0_7, .int .i64 a0_8, .bool a0_9, .slice A0_10 l0_10.length c0_10, .bool a0_11, .int .u32 a0_12, .int .u32 a0_13, .string a0_14] 38 (0, 0)) (by (with_reducible repeat (first | refine blk_drewN ?_ _ | refine blk_drew ?_ | refine blk_alloc ?_ _)); exact BK237.out) hb); have n1_ := Aside0.mk (below_step (by repeat (first | (with_reducible first | exact HB.out | apply below_alloc | apply pw_below_drewN | apply below_drew1 | refine below_set ?_ GE237.out) | exact HB.out)) hb); clear BK237; clear HB; have BK237 := n0_; have HB := n1_; clear n0_ n1_; (try clear hb); (try clear hb2); (try clear hk); (try clear hi)) | (go_at_call 30; (with_reducible refine (rampartlaw16_known.calls  t239 _ A47.out).mono ?_); rintro e w51 ⟨rfl, hb⟩; have n0_ := Aside0.mk (blk_below (g := gb237) (o := .cells #[.int .i64 a0_0, .int .i64 a0_1, .int .u32 a0_2, .int .u32 a0_3, .int .i64 a0_4, .int .i64 a0_5, .int .i64 a0_6, .int .i64 a0_7, .int .i64 a0_8, .bool a0_9, .slice A0_10 l0_10.length c0_10, .bool a0_11, .int .u32 a0_12, .int .u32 a0_13, .string a0_14] 38 (0, 0)) (by (with_reducible repeat (first | refine blk_drewN ?_ _ | refine blk_drew ?_ | refine blk_alloc ?_ _)); exact BK237.out) hb); have n1_ := Aside0.mk (below_step (by repeat (first | (with_reducible first | exact HB.out | apply below_alloc | apply pw_below_drewN | apply below_drew1 | refine below_set ?_ GE237.out) | exact HB.out)) hb); clear BK237; clear HB; have BK237 := n0_; have HB := n1_; clear n0_ n1_; (try clear hb); (try clear hb2); (try clear hk); (try clear hi))))
    go_ret
    exact ⟨by first | rfl | (simp [errW_none, errW_some] <;> rfl) | (simp [*, errW_none, errW_some] <;> rfl), by repeat (first | (with_reducible first | exact HB.out | apply below_alloc | apply pw_below_drewN | apply below_drew1 | refine below_set ?_ GE237.out) | exact HB.out)⟩

end Go.Proofs.Ytbmekfammbfadaa.PAll
