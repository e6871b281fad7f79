/- Contracts of window's functions, and of their reference's, over records: what they return is what a Lean function over these records does. No conditions but those that each theorem names. -/
import Derived.Test.YtfgpcaadgfgkcaaSide
import Derived.Test.YtfgpcaadgfgkcaaDig
import Derived.Test.YtfgpcaadgfgkcaaWEqStruct
namespace Go.Proofs.Ytfgpcaadgfgkcaa.Win
open Go.RowKit Go.Proofs.Ytfgpcaadgfgkcaa.PAll Go.Proofs.YtfgpcaadgfgkcaaW.PrintWords Go.Proofs.YtfgpcaadgfgkcaaW.PrintLast Go.Proofs.Ytfgpcaadgfgkcaa.SeqnLem Go.Proofs.Ytfgpcaadgfgkcaa.Edge Go.Proofs.Ytfgpcaadgfgkcaa.Exec Go.Proofs.Ytfgpcaadgfgkcaa.World_ Go.Proofs.Ytfgpcaadgfgkcaa.Side Go.Proofs.Ytfgpcaadgfgkcaa.Dig
set_option linter.unusedVariables false
set_option linter.unusedSimpArgs false
theorem eqA24 (d : Nat) (w : World) (x0 y0 : Bool) (x1 y1 : Int) (x2 y2 : Int) (x3 y3 : Int) (x4 y4 : Bool) (x5 y5 : Int) (x6 y6 : Int) :
    (Op.equalIn (d + 2) 24 (.agg #[.bool x0, .int .u32 x1, .int .u32 x2, .int .u32 x3, .bool x4, .int .i64 x5, .int .i64 x6]) (.agg #[.bool y0, .int .u32 y1, .int .u32 y2, .int .u32 y3, .bool y4, .int .i64 y5, .int .i64 y6])).run Try.prog w = .ok (x0 == y0 && (x1 == y1 && (x2 == y2 && (x3 == y3 && (x4 == y4 && (x5 == y5 && (x6 == y6))))))) w := by
  refine eqA_of Try.underlying24 (by kernel_rfl) ?_
  refine eqf_cons (by rfl) (by go_simp; rfl) (by go_simp; rfl) (by go_simp) ?_
  refine eqf_cons (by rfl) (by go_simp; rfl) (by go_simp; rfl) (by go_simp) ?_
  refine eqf_cons (by rfl) (by go_simp; rfl) (by go_simp; rfl) (by go_simp) ?_
  refine eqf_cons (by rfl) (by go_simp; rfl) (by go_simp; rfl) (by go_simp) ?_
  refine eqf_cons (by rfl) (by go_simp; rfl) (by go_simp; rfl) (by go_simp) ?_
  refine eqf_cons (by rfl) (by go_simp; rfl) (by go_simp; rfl) (by go_simp) ?_
  exact eqf_last (by rfl) (by go_simp; rfl) (by go_simp; rfl) (by go_simp)
theorem eq24 (x y : Sd) (w : World) : (Op.equalIn 10000 24 (.agg #[.bool x.on, .int .u32 x.fin, .int .u32 x.max, .int .u32 x.ack, .bool x.has, .int .i64 x.win, .int .i64 x.scale]) (.agg #[.bool y.on, .int .u32 y.fin, .int .u32 y.max, .int .u32 y.ack, .bool y.has, .int .i64 y.win, .int .i64 y.scale])).run Try.prog w = .ok (Sd.eq x y) w := eqA24 9998 w  _ _ _ _ _ _ _ _ _ _ _ _ _ _
theorem eqA34 (d : Nat) (w : World) (x0 y0 : Bool) (x1 y1 : Int) (x2 y2 : Int) (x3 y3 : Int) (x4 y4 : Bool) (x5 y5 : Int) (x6 y6 : Int) :
    (Op.equalIn (d + 2) 34 (.agg #[.bool x0, .int .u32 x1, .int .u32 x2, .int .u32 x3, .bool x4, .int .i64 x5, .int .i64 x6]) (.agg #[.bool y0, .int .u32 y1, .int .u32 y2, .int .u32 y3, .bool y4, .int .i64 y5, .int .i64 y6])).run Try.prog w = .ok (x0 == y0 && (x1 == y1 && (x2 == y2 && (x3 == y3 && (x4 == y4 && (x5 == y5 && (x6 == y6))))))) w := by
  refine eqA_of Try.underlying34 (by kernel_rfl) ?_
  refine eqf_cons (by rfl) (by go_simp; rfl) (by go_simp; rfl) (by go_simp) ?_
  refine eqf_cons (by rfl) (by go_simp; rfl) (by go_simp; rfl) (by go_simp) ?_
  refine eqf_cons (by rfl) (by go_simp; rfl) (by go_simp; rfl) (by go_simp) ?_
  refine eqf_cons (by rfl) (by go_simp; rfl) (by go_simp; rfl) (by go_simp) ?_
  refine eqf_cons (by rfl) (by go_simp; rfl) (by go_simp; rfl) (by go_simp) ?_
  refine eqf_cons (by rfl) (by go_simp; rfl) (by go_simp; rfl) (by go_simp) ?_
  exact eqf_last (by rfl) (by go_simp; rfl) (by go_simp; rfl) (by go_simp)
theorem eq34 (x y : Sd) (w : World) : (Op.equalIn 10000 34 (.agg #[.bool x.on, .int .u32 x.fin, .int .u32 x.max, .int .u32 x.ack, .bool x.has, .int .i64 x.win, .int .i64 x.scale]) (.agg #[.bool y.on, .int .u32 y.fin, .int .u32 y.max, .int .u32 y.ack, .bool y.has, .int .i64 y.win, .int .i64 y.scale])).run Try.prog w = .ok (Sd.eq x y) w := eqA34 9998 w  _ _ _ _ _ _ _ _ _ _ _ _ _ _
def c_begin_T0 : Bool × List (List Nat × List Nat) := (true, [([], []), ([], []), ([], []), ([2], [2]), ([3], [3]), ([4], [4]), ([], []), ([6], [6]), ([7], [7]), ([0, 1, 5, 8], [0, 1, 5, 8]), ([], []), ([10, 9, 4, 0, 1, 2, 3, 4, 5, 6, 7, 8, 9, 10], [9, 10])])
def c_begin_B0 : List Nat := [0, 0, 0, 4, 12, 28, 0, 64, 192, 511, 0, 2047]
set_option maxRecDepth 100000 in
theorem c_begin_0 {w : World} (g : Sg)  {A : Option Addr} {c : Nat} (ok : g.Ok A c w) (hd : g.data.size ≤ 1000000) (h0 : (decide ((Go.bits .and .i64 g.flags 16) > 0)) = true) : Calls Try.prog 32 #[g.V A c] w fun e w' => e = .returned (.agg #[.bool true, .int .u32 (EndS g), .int .u32 (EndS g), .int .u32 g.ack, .bool true, .int .i64 (mx 1 (Shift g.win 0 true)), .int .i64 g.scale]) ∧ Below w.heap.size w w' :=
  calls_of_check rfl Try.func32 1000000 [g.V A c] [(.call 48 [g.V A c] (.int .u32 (EndS g))),
    (.sched c_begin_T0 c_begin_B0 [(1, 5), (1, 8)] [] (.s 0 0 (.s 0 1 (.s 0 2 (.s 0 6 (.s 0 7 (.s 1 3 (.s 1 8 (.two 4 (.s 0 5 (.s 0 9 (.s 2 10 (.s 2 11 .e)))) 10 (.s 2 4 (.s 0 5 (.s 0 9 (.s 2 11 .e))))))))))))),
    (.call 49 [.int .i64 g.win, .int .i64 0, .bool true] (.int .i64 (Shift g.win 0 true))),
    (.cast 20 (.bool (decide ((Go.bits .and .i64 g.flags 16) > 0))) (.bool true))] (by kernel_rfl) (by kernel_rfl)
    ⟨⟨ent Try.func48 rfl rfl, fun w' hw => c_end (s := g) (A := A) (c := c) (ok.keep hw) hd⟩, trivial, ⟨ent Try.func49 rfl rfl, fun w' hw => c_shift g.win 0 true⟩, congrArg Value.bool h0, trivial⟩
set_option maxRecDepth 100000 in
theorem c_begin_1 {w : World} (g : Sg)  {A : Option Addr} {c : Nat} (ok : g.Ok A c w) (hd : g.data.size ≤ 1000000) (h0 : (decide ((Go.bits .and .i64 g.flags 16) > 0)) = false) : Calls Try.prog 32 #[g.V A c] w fun e w' => e = .returned (.agg #[.bool true, .int .u32 (EndS g), .int .u32 (EndS g), .int .u32 0, .bool false, .int .i64 (mx 1 (Shift g.win 0 true)), .int .i64 g.scale]) ∧ Below w.heap.size w w' :=
  calls_of_check rfl Try.func32 1000000 [g.V A c] [(.call 48 [g.V A c] (.int .u32 (EndS g))),
    (.sched c_begin_T0 c_begin_B0 [(1, 5), (1, 8)] [] (.s 0 0 (.s 0 1 (.s 0 2 (.s 0 6 (.s 0 7 (.s 1 3 (.s 1 8 (.two 4 (.s 0 5 (.s 0 9 (.s 2 10 (.s 2 11 .e)))) 10 (.s 2 4 (.s 0 5 (.s 0 9 (.s 2 11 .e))))))))))))),
    (.call 49 [.int .i64 g.win, .int .i64 0, .bool true] (.int .i64 (Shift g.win 0 true))),
    (.cast 20 (.bool (decide ((Go.bits .and .i64 g.flags 16) > 0))) (.bool false))] (by kernel_rfl) (by kernel_rfl)
    ⟨⟨ent Try.func48 rfl rfl, fun w' hw => c_end (s := g) (A := A) (c := c) (ok.keep hw) hd⟩, trivial, ⟨ent Try.func49 rfl rfl, fun w' hw => c_shift g.win 0 true⟩, congrArg Value.bool h0, trivial⟩
def beginF (g : Sg)  : Sd := (bif decide ((Go.bits .and .i64 g.flags 16) > 0) then ⟨true, EndS g, EndS g, g.ack, true, mx 1 (Shift g.win 0 true), g.scale⟩ else ⟨true, EndS g, EndS g, 0, false, mx 1 (Shift g.win 0 true), g.scale⟩)
theorem c_begin {w : World} (g : Sg)  {A : Option Addr} {c : Nat} (ok : g.Ok A c w) (hd : g.data.size ≤ 1000000) : Calls Try.prog 32 #[g.V A c] w fun e w' => e = .returned ((beginF g).V) ∧ Below w.heap.size w w' := by
  cases h0 : (decide ((Go.bits .and .i64 g.flags 16) > 0)) with
  | true =>
    have e : beginF g = ⟨true, EndS g, EndS g, g.ack, true, mx 1 (Shift g.win 0 true), g.scale⟩ := by unfold beginF; rw [h0, cond_true]
    rw [e]
    exact c_begin_0 g ok hd h0
  | false =>
    have e : beginF g = ⟨true, EndS g, EndS g, 0, false, mx 1 (Shift g.win 0 true), g.scale⟩ := by unfold beginF; rw [h0, cond_false]
    rw [e]
    exact c_begin_1 g ok hd h0
def c_note_T0 : Bool × List (List Nat × List Nat) := (true, [([], []), ([0], [0]), ([], []), ([2], [2]), ([1, 3, 3], [1, 3]), ([0, 1, 2, 3, 4], []), ([5, 4, 4, 0, 1, 2, 3, 4], [4, 5])])
def c_note_B0 : List Nat := [0, 1, 0, 4, 15, 31, 63]
def c_note_T1 : Bool × List (List Nat × List Nat) := (true, [([], []), ([0], [0]), ([], []), ([2], [2]), ([], []), ([4], [4]), ([], []), ([6], [6]), ([7], [7]), ([8], [8]), ([3, 5, 9], [3, 5, 9]), ([1, 10], [1, 10]), ([0, 1, 2, 3, 4, 5, 6, 7, 8, 9, 10, 11], []), ([12, 11, 10, 0, 1, 2, 3, 4, 5, 6, 7, 8, 9, 10, 11], [11, 12])])
def c_note_B1 : List Nat := [0, 1, 0, 4, 0, 16, 0, 64, 192, 448, 1020, 2047, 4095, 8191]
def c_note_T2 : Bool × List (List Nat × List Nat) := (true, [([], []), ([], []), ([0, 0], [0]), ([1, 2, 0, 1, 2], [1])])
def c_note_B2 : List Nat := [0, 0, 1, 7]
def c_note_T3 : Bool × List (List Nat × List Nat) := (true, [([], []), ([0], [0]), ([], []), ([], []), ([3], [3]), ([2, 4], [2, 4]), ([1, 5, 5], [1, 5]), ([0, 1, 2, 3, 4, 5, 6], []), ([7, 6, 6, 0, 1, 2, 3, 4, 5, 6], [6, 7])])
def c_note_B3 : List Nat := [0, 1, 0, 0, 8, 28, 63, 127, 255]
set_option maxRecDepth 100000 in
theorem c_note_0 {w : World} (s : Sd) (r : Sd) (g : Sg)  {A : Option Addr} {c : Nat} (ok : g.Ok A c w) (hd : g.data.size ≤ 1000000) (h0 : ((Go.bits .and .i64 g.flags 16) == 0) = true) : Calls Try.prog 27 #[s.V, r.V, g.V A c] w fun e w' => e = .returned (.tuple #[.agg #[.bool s.on, .int .u32 (later s.fin (EndS g)), .int .u32 s.max, .int .u32 s.ack, .bool s.has, .int .i64 (mx (mx s.win 1) (Shift g.win s.scale (decide ((Go.bits .and .i64 g.flags 2) > 0)))), .int .i64 s.scale], r.V]) ∧ Below w.heap.size w w' :=
  calls_of_check rfl Try.func27 1000000 [s.V, r.V, g.V A c] [(.sched c_note_T0 c_note_B0 [(3, 1), (5, 0), (5, 1), (5, 2), (5, 3), (5, 4), (5, 5), (5, 6), (5, 7), (5, 8), (5, 9), (5, 10), (5, 11), (5, 12), (5, 13), (5, 14)] [6] (.s 0 0 (.s 1 1 (.s 1 2 (.s 2 3 (.s 2 4 (.s 0 5 (.s 3 6 .e)))))))),
    (.call 48 [g.V A c] (.int .u32 (EndS g))),
    (.call 47 [.int .u32 s.fin, .int .u32 (EndS g)] (.int .u32 (later s.fin (EndS g)))),
    (.sched c_note_T1 c_note_B1 [(3, 5), (3, 6), (5, 4), (5, 5)] [13] (.s 0 0 (.s 0 2 (.s 0 4 (.s 0 6 (.s 1 1 (.s 1 3 (.s 1 5 (.s 1 7 (.s 0 8 (.s 0 9 (.s 2 10 (.s 0 11 (.s 0 12 (.s 3 13 .e))))))))))))))),
    (.call 49 [.int .i64 g.win, .int .i64 s.scale, .bool (decide ((Go.bits .and .i64 g.flags 2) > 0))] (.int .i64 (Shift g.win s.scale (decide ((Go.bits .and .i64 g.flags 2) > 0))))),
    (.cast 30 (.bool ((Go.bits .and .i64 g.flags 16) == 0)) (.bool true)),
    (.sched c_note_T2 c_note_B2 [(3, 0), (3, 1), (3, 2), (3, 3), (3, 4), (3, 5), (3, 6), (4, 0), (4, 1), (4, 2), (4, 3), (4, 4), (4, 5), (4, 6)] [] (.s 1 0 (.s 1 1 (.s 2 2 (.s 2 3 .e)))))] (by kernel_rfl) (by kernel_rfl)
    ⟨trivial, ⟨ent Try.func48 rfl rfl, fun w' hw => c_end (s := g) (A := A) (c := c) (ok.keep hw) hd⟩, ⟨ent Try.func47 rfl rfl, fun w' hw => c_later s.fin (EndS g)⟩, trivial, ⟨ent Try.func49 rfl rfl, fun w' hw => c_shift g.win s.scale (decide ((Go.bits .and .i64 g.flags 2) > 0))⟩, congrArg Value.bool h0, trivial, trivial⟩
set_option maxRecDepth 100000 in
theorem c_note_1 {w : World} (s : Sd) (r : Sd) (g : Sg)  {A : Option Addr} {c : Nat} (ok : g.Ok A c w) (hd : g.data.size ≤ 1000000) (h0 : ((Go.bits .and .i64 g.flags 16) == 0) = false) (h1 : (!s.has) = true) (h2 : (r.on) = true) : Calls Try.prog 27 #[s.V, r.V, g.V A c] w fun e w' => e = .returned (.tuple #[.agg #[.bool s.on, .int .u32 (later s.fin (EndS g)), .int .u32 s.max, .int .u32 (later g.ack g.ack), .bool true, .int .i64 (mx (mx s.win 1) (Shift g.win s.scale (decide ((Go.bits .and .i64 g.flags 2) > 0)))), .int .i64 s.scale], .agg #[.bool r.on, .int .u32 r.fin, .int .u32 (later r.max (Grant g s.scale)), .int .u32 r.ack, .bool r.has, .int .i64 r.win, .int .i64 r.scale]]) ∧ Below w.heap.size w w' :=
  calls_of_check rfl Try.func27 1000000 [s.V, r.V, g.V A c] [(.sched c_note_T0 c_note_B0 [(3, 1), (5, 0), (5, 1), (5, 2), (5, 3), (5, 4), (5, 5), (5, 6), (5, 7), (5, 8), (5, 9), (5, 10), (5, 11), (5, 12), (5, 13), (5, 14)] [6] (.s 0 0 (.s 1 1 (.s 1 2 (.s 2 3 (.s 2 4 (.s 0 5 (.s 3 6 .e)))))))),
    (.call 48 [g.V A c] (.int .u32 (EndS g))),
    (.call 47 [.int .u32 s.fin, .int .u32 (EndS g)] (.int .u32 (later s.fin (EndS g)))),
    (.sched c_note_T1 c_note_B1 [(3, 5), (3, 6), (5, 4), (5, 5)] [13] (.s 0 0 (.s 0 2 (.s 0 4 (.s 0 6 (.s 1 1 (.s 1 3 (.s 1 5 (.s 1 7 (.s 0 8 (.s 0 9 (.s 2 10 (.s 0 11 (.s 0 12 (.s 3 13 .e))))))))))))))),
    (.call 49 [.int .i64 g.win, .int .i64 s.scale, .bool (decide ((Go.bits .and .i64 g.flags 2) > 0))] (.int .i64 (Shift g.win s.scale (decide ((Go.bits .and .i64 g.flags 2) > 0))))),
    (.cast 30 (.bool ((Go.bits .and .i64 g.flags 16) == 0)) (.bool false)),
    (.cast 35 (.bool !s.has) (.bool true)),
    (.call 47 [.int .u32 g.ack, .int .u32 g.ack] (.int .u32 (later g.ack g.ack))),
    (.cast 47 (.bool r.on) (.bool true)),
    (.sched c_note_T3 c_note_B3 [(3, 6), (4, 2), (5, 0), (5, 1), (5, 2), (5, 3), (5, 4), (5, 5), (5, 6), (5, 7), (5, 8), (5, 9), (5, 10), (5, 11), (5, 12), (5, 13), (5, 14)] [8] (.s 0 0 (.s 0 3 (.s 1 1 (.s 1 2 (.s 1 4 (.s 2 5 (.s 2 6 (.s 0 7 (.s 3 8 .e)))))))))),
    (.call 50 [g.V A c, .int .i64 s.scale] (.int .u32 (Grant g s.scale))),
    (.call 47 [.int .u32 r.max, .int .u32 (Grant g s.scale)] (.int .u32 (later r.max (Grant g s.scale)))),
    (.sched c_note_T2 c_note_B2 [(3, 0), (3, 1), (3, 2), (3, 3), (3, 4), (3, 5), (3, 6), (4, 0), (4, 1), (4, 2), (4, 3), (4, 4), (4, 5), (4, 6)] [] (.s 1 0 (.s 1 1 (.s 2 2 (.s 2 3 .e)))))] (by kernel_rfl) (by kernel_rfl)
    ⟨trivial, ⟨ent Try.func48 rfl rfl, fun w' hw => c_end (s := g) (A := A) (c := c) (ok.keep hw) hd⟩, ⟨ent Try.func47 rfl rfl, fun w' hw => c_later s.fin (EndS g)⟩, trivial, ⟨ent Try.func49 rfl rfl, fun w' hw => c_shift g.win s.scale (decide ((Go.bits .and .i64 g.flags 2) > 0))⟩, congrArg Value.bool h0, congrArg Value.bool h1, ⟨ent Try.func47 rfl rfl, fun w' hw => c_later g.ack g.ack⟩, congrArg Value.bool h2, trivial, ⟨ent Try.func50 rfl rfl, fun w' hw => c_grant (s := g) (A := A) (c := c) s.scale (ok.keep hw) ⟩, ⟨ent Try.func47 rfl rfl, fun w' hw => c_later r.max (Grant g s.scale)⟩, trivial, trivial⟩
set_option maxRecDepth 100000 in
theorem c_note_2 {w : World} (s : Sd) (r : Sd) (g : Sg)  {A : Option Addr} {c : Nat} (ok : g.Ok A c w) (hd : g.data.size ≤ 1000000) (h0 : ((Go.bits .and .i64 g.flags 16) == 0) = false) (h1 : (!s.has) = true) (h2 : (r.on) = false) : Calls Try.prog 27 #[s.V, r.V, g.V A c] w fun e w' => e = .returned (.tuple #[.agg #[.bool s.on, .int .u32 (later s.fin (EndS g)), .int .u32 s.max, .int .u32 (later g.ack g.ack), .bool true, .int .i64 (mx (mx s.win 1) (Shift g.win s.scale (decide ((Go.bits .and .i64 g.flags 2) > 0)))), .int .i64 s.scale], r.V]) ∧ Below w.heap.size w w' :=
  calls_of_check rfl Try.func27 1000000 [s.V, r.V, g.V A c] [(.sched c_note_T0 c_note_B0 [(3, 1), (5, 0), (5, 1), (5, 2), (5, 3), (5, 4), (5, 5), (5, 6), (5, 7), (5, 8), (5, 9), (5, 10), (5, 11), (5, 12), (5, 13), (5, 14)] [6] (.s 0 0 (.s 1 1 (.s 1 2 (.s 2 3 (.s 2 4 (.s 0 5 (.s 3 6 .e)))))))),
    (.call 48 [g.V A c] (.int .u32 (EndS g))),
    (.call 47 [.int .u32 s.fin, .int .u32 (EndS g)] (.int .u32 (later s.fin (EndS g)))),
    (.sched c_note_T1 c_note_B1 [(3, 5), (3, 6), (5, 4), (5, 5)] [13] (.s 0 0 (.s 0 2 (.s 0 4 (.s 0 6 (.s 1 1 (.s 1 3 (.s 1 5 (.s 1 7 (.s 0 8 (.s 0 9 (.s 2 10 (.s 0 11 (.s 0 12 (.s 3 13 .e))))))))))))))),
    (.call 49 [.int .i64 g.win, .int .i64 s.scale, .bool (decide ((Go.bits .and .i64 g.flags 2) > 0))] (.int .i64 (Shift g.win s.scale (decide ((Go.bits .and .i64 g.flags 2) > 0))))),
    (.cast 30 (.bool ((Go.bits .and .i64 g.flags 16) == 0)) (.bool false)),
    (.cast 35 (.bool !s.has) (.bool true)),
    (.call 47 [.int .u32 g.ack, .int .u32 g.ack] (.int .u32 (later g.ack g.ack))),
    (.cast 47 (.bool r.on) (.bool false)),
    (.sched c_note_T2 c_note_B2 [(3, 0), (3, 1), (3, 2), (3, 3), (3, 4), (3, 5), (3, 6), (4, 0), (4, 1), (4, 2), (4, 3), (4, 4), (4, 5), (4, 6)] [] (.s 1 0 (.s 1 1 (.s 2 2 (.s 2 3 .e)))))] (by kernel_rfl) (by kernel_rfl)
    ⟨trivial, ⟨ent Try.func48 rfl rfl, fun w' hw => c_end (s := g) (A := A) (c := c) (ok.keep hw) hd⟩, ⟨ent Try.func47 rfl rfl, fun w' hw => c_later s.fin (EndS g)⟩, trivial, ⟨ent Try.func49 rfl rfl, fun w' hw => c_shift g.win s.scale (decide ((Go.bits .and .i64 g.flags 2) > 0))⟩, congrArg Value.bool h0, congrArg Value.bool h1, ⟨ent Try.func47 rfl rfl, fun w' hw => c_later g.ack g.ack⟩, congrArg Value.bool h2, trivial, trivial⟩
set_option maxRecDepth 100000 in
theorem c_note_3 {w : World} (s : Sd) (r : Sd) (g : Sg)  {A : Option Addr} {c : Nat} (ok : g.Ok A c w) (hd : g.data.size ≤ 1000000) (h0 : ((Go.bits .and .i64 g.flags 16) == 0) = false) (h1 : (!s.has) = false) (h2 : (r.on) = true) : Calls Try.prog 27 #[s.V, r.V, g.V A c] w fun e w' => e = .returned (.tuple #[.agg #[.bool s.on, .int .u32 (later s.fin (EndS g)), .int .u32 s.max, .int .u32 (later s.ack g.ack), .bool s.has, .int .i64 (mx (mx s.win 1) (Shift g.win s.scale (decide ((Go.bits .and .i64 g.flags 2) > 0)))), .int .i64 s.scale], .agg #[.bool r.on, .int .u32 r.fin, .int .u32 (later r.max (Grant g s.scale)), .int .u32 r.ack, .bool r.has, .int .i64 r.win, .int .i64 r.scale]]) ∧ Below w.heap.size w w' :=
  calls_of_check rfl Try.func27 1000000 [s.V, r.V, g.V A c] [(.sched c_note_T0 c_note_B0 [(3, 1), (5, 0), (5, 1), (5, 2), (5, 3), (5, 4), (5, 5), (5, 6), (5, 7), (5, 8), (5, 9), (5, 10), (5, 11), (5, 12), (5, 13), (5, 14)] [6] (.s 0 0 (.s 1 1 (.s 1 2 (.s 2 3 (.s 2 4 (.s 0 5 (.s 3 6 .e)))))))),
    (.call 48 [g.V A c] (.int .u32 (EndS g))),
    (.call 47 [.int .u32 s.fin, .int .u32 (EndS g)] (.int .u32 (later s.fin (EndS g)))),
    (.sched c_note_T1 c_note_B1 [(3, 5), (3, 6), (5, 4), (5, 5)] [13] (.s 0 0 (.s 0 2 (.s 0 4 (.s 0 6 (.s 1 1 (.s 1 3 (.s 1 5 (.s 1 7 (.s 0 8 (.s 0 9 (.s 2 10 (.s 0 11 (.s 0 12 (.s 3 13 .e))))))))))))))),
    (.call 49 [.int .i64 g.win, .int .i64 s.scale, .bool (decide ((Go.bits .and .i64 g.flags 2) > 0))] (.int .i64 (Shift g.win s.scale (decide ((Go.bits .and .i64 g.flags 2) > 0))))),
    (.cast 30 (.bool ((Go.bits .and .i64 g.flags 16) == 0)) (.bool false)),
    (.cast 35 (.bool !s.has) (.bool false)),
    (.call 47 [.int .u32 s.ack, .int .u32 g.ack] (.int .u32 (later s.ack g.ack))),
    (.cast 47 (.bool r.on) (.bool true)),
    (.sched c_note_T3 c_note_B3 [(3, 6), (4, 2), (5, 0), (5, 1), (5, 2), (5, 3), (5, 4), (5, 5), (5, 6), (5, 7), (5, 8), (5, 9), (5, 10), (5, 11), (5, 12), (5, 13), (5, 14)] [8] (.s 0 0 (.s 0 3 (.s 1 1 (.s 1 2 (.s 1 4 (.s 2 5 (.s 2 6 (.s 0 7 (.s 3 8 .e)))))))))),
    (.call 50 [g.V A c, .int .i64 s.scale] (.int .u32 (Grant g s.scale))),
    (.call 47 [.int .u32 r.max, .int .u32 (Grant g s.scale)] (.int .u32 (later r.max (Grant g s.scale)))),
    (.sched c_note_T2 c_note_B2 [(3, 0), (3, 1), (3, 2), (3, 3), (3, 4), (3, 5), (3, 6), (4, 0), (4, 1), (4, 2), (4, 3), (4, 4), (4, 5), (4, 6)] [] (.s 1 0 (.s 1 1 (.s 2 2 (.s 2 3 .e)))))] (by kernel_rfl) (by kernel_rfl)
    ⟨trivial, ⟨ent Try.func48 rfl rfl, fun w' hw => c_end (s := g) (A := A) (c := c) (ok.keep hw) hd⟩, ⟨ent Try.func47 rfl rfl, fun w' hw => c_later s.fin (EndS g)⟩, trivial, ⟨ent Try.func49 rfl rfl, fun w' hw => c_shift g.win s.scale (decide ((Go.bits .and .i64 g.flags 2) > 0))⟩, congrArg Value.bool h0, congrArg Value.bool h1, ⟨ent Try.func47 rfl rfl, fun w' hw => c_later s.ack g.ack⟩, congrArg Value.bool h2, trivial, ⟨ent Try.func50 rfl rfl, fun w' hw => c_grant (s := g) (A := A) (c := c) s.scale (ok.keep hw) ⟩, ⟨ent Try.func47 rfl rfl, fun w' hw => c_later r.max (Grant g s.scale)⟩, trivial, trivial⟩
set_option maxRecDepth 100000 in
theorem c_note_4 {w : World} (s : Sd) (r : Sd) (g : Sg)  {A : Option Addr} {c : Nat} (ok : g.Ok A c w) (hd : g.data.size ≤ 1000000) (h0 : ((Go.bits .and .i64 g.flags 16) == 0) = false) (h1 : (!s.has) = false) (h2 : (r.on) = false) : Calls Try.prog 27 #[s.V, r.V, g.V A c] w fun e w' => e = .returned (.tuple #[.agg #[.bool s.on, .int .u32 (later s.fin (EndS g)), .int .u32 s.max, .int .u32 (later s.ack g.ack), .bool s.has, .int .i64 (mx (mx s.win 1) (Shift g.win s.scale (decide ((Go.bits .and .i64 g.flags 2) > 0)))), .int .i64 s.scale], r.V]) ∧ Below w.heap.size w w' :=
  calls_of_check rfl Try.func27 1000000 [s.V, r.V, g.V A c] [(.sched c_note_T0 c_note_B0 [(3, 1), (5, 0), (5, 1), (5, 2), (5, 3), (5, 4), (5, 5), (5, 6), (5, 7), (5, 8), (5, 9), (5, 10), (5, 11), (5, 12), (5, 13), (5, 14)] [6] (.s 0 0 (.s 1 1 (.s 1 2 (.s 2 3 (.s 2 4 (.s 0 5 (.s 3 6 .e)))))))),
    (.call 48 [g.V A c] (.int .u32 (EndS g))),
    (.call 47 [.int .u32 s.fin, .int .u32 (EndS g)] (.int .u32 (later s.fin (EndS g)))),
    (.sched c_note_T1 c_note_B1 [(3, 5), (3, 6), (5, 4), (5, 5)] [13] (.s 0 0 (.s 0 2 (.s 0 4 (.s 0 6 (.s 1 1 (.s 1 3 (.s 1 5 (.s 1 7 (.s 0 8 (.s 0 9 (.s 2 10 (.s 0 11 (.s 0 12 (.s 3 13 .e))))))))))))))),
    (.call 49 [.int .i64 g.win, .int .i64 s.scale, .bool (decide ((Go.bits .and .i64 g.flags 2) > 0))] (.int .i64 (Shift g.win s.scale (decide ((Go.bits .and .i64 g.flags 2) > 0))))),
    (.cast 30 (.bool ((Go.bits .and .i64 g.flags 16) == 0)) (.bool false)),
    (.cast 35 (.bool !s.has) (.bool false)),
    (.call 47 [.int .u32 s.ack, .int .u32 g.ack] (.int .u32 (later s.ack g.ack))),
    (.cast 47 (.bool r.on) (.bool false)),
    (.sched c_note_T2 c_note_B2 [(3, 0), (3, 1), (3, 2), (3, 3), (3, 4), (3, 5), (3, 6), (4, 0), (4, 1), (4, 2), (4, 3), (4, 4), (4, 5), (4, 6)] [] (.s 1 0 (.s 1 1 (.s 2 2 (.s 2 3 .e)))))] (by kernel_rfl) (by kernel_rfl)
    ⟨trivial, ⟨ent Try.func48 rfl rfl, fun w' hw => c_end (s := g) (A := A) (c := c) (ok.keep hw) hd⟩, ⟨ent Try.func47 rfl rfl, fun w' hw => c_later s.fin (EndS g)⟩, trivial, ⟨ent Try.func49 rfl rfl, fun w' hw => c_shift g.win s.scale (decide ((Go.bits .and .i64 g.flags 2) > 0))⟩, congrArg Value.bool h0, congrArg Value.bool h1, ⟨ent Try.func47 rfl rfl, fun w' hw => c_later s.ack g.ack⟩, congrArg Value.bool h2, trivial, trivial⟩
def noteF (s : Sd) (r : Sd) (g : Sg)  : Sd × Sd := (bif (Go.bits .and .i64 g.flags 16) == 0 then ({ s with fin := later s.fin (EndS g), win := mx (mx s.win 1) (Shift g.win s.scale (decide ((Go.bits .and .i64 g.flags 2) > 0))) }, r) else (bif !s.has then (bif r.on then (⟨s.on, later s.fin (EndS g), s.max, later g.ack g.ack, true, mx (mx s.win 1) (Shift g.win s.scale (decide ((Go.bits .and .i64 g.flags 2) > 0))), s.scale⟩, { r with max := later r.max (Grant g s.scale) }) else (⟨s.on, later s.fin (EndS g), s.max, later g.ack g.ack, true, mx (mx s.win 1) (Shift g.win s.scale (decide ((Go.bits .and .i64 g.flags 2) > 0))), s.scale⟩, r)) else (bif r.on then ({ s with fin := later s.fin (EndS g), ack := later s.ack g.ack, win := mx (mx s.win 1) (Shift g.win s.scale (decide ((Go.bits .and .i64 g.flags 2) > 0))) }, { r with max := later r.max (Grant g s.scale) }) else ({ s with fin := later s.fin (EndS g), ack := later s.ack g.ack, win := mx (mx s.win 1) (Shift g.win s.scale (decide ((Go.bits .and .i64 g.flags 2) > 0))) }, r))))
theorem c_note {w : World} (s : Sd) (r : Sd) (g : Sg)  {A : Option Addr} {c : Nat} (ok : g.Ok A c w) (hd : g.data.size ≤ 1000000) : Calls Try.prog 27 #[s.V, r.V, g.V A c] w fun e w' => e = .returned (.tuple #[(noteF s r g).1.V, (noteF s r g).2.V]) ∧ Below w.heap.size w w' := by
  cases h0 : ((Go.bits .and .i64 g.flags 16) == 0) with
  | true =>
    have e : noteF s r g = ({ s with fin := later s.fin (EndS g), win := mx (mx s.win 1) (Shift g.win s.scale (decide ((Go.bits .and .i64 g.flags 2) > 0))) }, r) := by unfold noteF; rw [h0, cond_true]
    rw [e]
    exact c_note_0 s r g ok hd h0
  | false =>
    cases h1 : (!s.has) with
    | true =>
      cases h2 : (r.on) with
      | true =>
        have e : noteF s r g = (⟨s.on, later s.fin (EndS g), s.max, later g.ack g.ack, true, mx (mx s.win 1) (Shift g.win s.scale (decide ((Go.bits .and .i64 g.flags 2) > 0))), s.scale⟩, { r with max := later r.max (Grant g s.scale) }) := by unfold noteF; rw [h0, cond_false, h1, cond_true, h2, cond_true]
        rw [e]
        exact c_note_1 s r g ok hd h0 h1 h2
      | false =>
        have e : noteF s r g = (⟨s.on, later s.fin (EndS g), s.max, later g.ack g.ack, true, mx (mx s.win 1) (Shift g.win s.scale (decide ((Go.bits .and .i64 g.flags 2) > 0))), s.scale⟩, r) := by unfold noteF; rw [h0, cond_false, h1, cond_true, h2, cond_false]
        rw [e]
        exact c_note_2 s r g ok hd h0 h1 h2
    | false =>
      cases h2 : (r.on) with
      | true =>
        have e : noteF s r g = ({ s with fin := later s.fin (EndS g), ack := later s.ack g.ack, win := mx (mx s.win 1) (Shift g.win s.scale (decide ((Go.bits .and .i64 g.flags 2) > 0))) }, { r with max := later r.max (Grant g s.scale) }) := by unfold noteF; rw [h0, cond_false, h1, cond_false, h2, cond_true]
        rw [e]
        exact c_note_3 s r g ok hd h0 h1 h2
      | false =>
        have e : noteF s r g = ({ s with fin := later s.fin (EndS g), ack := later s.ack g.ack, win := mx (mx s.win 1) (Shift g.win s.scale (decide ((Go.bits .and .i64 g.flags 2) > 0))) }, r) := by unfold noteF; rw [h0, cond_false, h1, cond_false, h2, cond_false]
        rw [e]
        exact c_note_4 s r g ok hd h0 h1 h2
def c_scales_T0 : Bool × List (List Nat × List Nat) := (true, [([], []), ([], []), ([0, 0], [0]), ([1, 2, 0, 1, 2], [1])])
def c_scales_B0 : List Nat := [0, 0, 1, 7]
set_option maxRecDepth 100000 in
theorem c_scales_0 {w : World} (s : Sd) (r : Sd)  : Calls Try.prog 30 #[s.V, r.V] w fun e w' => e = .returned (.tuple #[.agg #[.bool s.on, .int .u32 s.fin, .int .u32 s.max, .int .u32 s.ack, .bool s.has, .int .i64 s.win, .int .i64 (AgreeA s.scale r.scale)], .agg #[.bool r.on, .int .u32 r.fin, .int .u32 r.max, .int .u32 r.ack, .bool r.has, .int .i64 r.win, .int .i64 (AgreeA r.scale s.scale)]]) ∧ Below w.heap.size w w' :=
  calls_of_check rfl Try.func30 1000000 [s.V, r.V] [(.call 53 [.int .i64 s.scale, .int .i64 r.scale] (.tuple #[.int .i64 (AgreeA s.scale r.scale), .int .i64 (AgreeA r.scale s.scale)])),
    (.sched c_scales_T0 c_scales_B0 [(2, 0), (2, 1), (2, 2), (2, 3), (2, 4), (2, 5), (2, 6), (3, 0), (3, 1), (3, 2), (3, 3), (3, 4), (3, 5), (3, 6)] [] (.s 1 0 (.s 1 1 (.s 2 2 (.s 2 3 .e)))))] (by kernel_rfl) (by kernel_rfl)
    ⟨⟨ent Try.func53 rfl rfl, fun w' hw => c_agree s.scale r.scale⟩, trivial, trivial⟩
def scalesF (s : Sd) (r : Sd)  : Sd × Sd := ({ s with scale := AgreeA s.scale r.scale }, { r with scale := AgreeA r.scale s.scale })
theorem c_scales {w : World} (s : Sd) (r : Sd)  : Calls Try.prog 30 #[s.V, r.V] w fun e w' => e = .returned (.tuple #[(scalesF s r).1.V, (scalesF s r).2.V]) ∧ Below w.heap.size w w' := by
  exact c_scales_0 s r
def c_rbegin_T0 : Bool × List (List Nat × List Nat) := (true, [([], []), ([0], [0]), ([], []), ([2, 1], [2]), ([], []), ([4], [4]), ([5, 3], [5]), ([6], [6]), ([], []), ([8], [8]), ([9], [9]), ([1, 3, 7, 10], [1, 3, 7, 10]), ([], []), ([12, 11, 6, 0, 1, 2, 3, 4, 5, 6, 7, 8, 9, 10, 11, 12], [11, 12])])
def c_rbegin_B0 : List Nat := [0, 1, 0, 7, 0, 16, 63, 127, 0, 256, 768, 2047, 0, 8191]
set_option maxRecDepth 100000 in
theorem c_rbegin_0 {w : World} (g : Sg)  {A : Option Addr} {c : Nat} (ok : g.Ok A c w) (hd : g.data.size ≤ 1000000) (wf_g : g.Wf) (h0 : ((Go.bits .and .i64 g.flags 16) != 0) = true) : Calls Try.prog 33 #[g.V A c] w fun e w' => e = .returned (.agg #[.bool true, .int .u32 (EndS g), .int .u32 (EndS g), .int .u32 g.ack, .bool true, .int .i64 (mx 1 (Shift g.win 0 true)), .int .i64 g.scale]) ∧ Below w.heap.size w w' :=
  calls_of_check rfl Try.func33 1000000 [g.V A c] [(.sched c_rbegin_T0 c_rbegin_B0 [(1, 0), (1, 1), (1, 2), (1, 3), (1, 4), (1, 5), (1, 6), (1, 7), (1, 8), (1, 9), (1, 10), (1, 11), (1, 12), (1, 13), (1, 14)] [] (.s 0 4 (.s 0 8 (.s 0 9 (.s 1 0 (.s 1 2 (.s 1 5 (.s 1 10 (.two 1 (.two 3 (.two 6 (.s 0 7 (.s 0 11 (.s 2 12 (.s 2 13 .e)))) 12 (.s 2 6 (.s 0 7 (.s 0 11 (.s 2 13 .e))))) 12 (.s 2 3 (.s 2 6 (.s 0 7 (.s 0 11 (.s 2 13 .e)))))) 12 (.s 2 1 (.s 2 3 (.s 2 6 (.s 0 7 (.s 0 11 (.s 2 13 .e))))))))))))))),
    (.call 24 [g.V A c] (.int .u32 (EndS g))),
    (.call 24 [g.V A c] (.int .u32 (EndS g))),
    (.call 52 [.int .i64 g.win, .int .i64 0, .bool true] (.int .i64 (Shift g.win 0 true))),
    (.cast 19 (.bool ((Go.bits .and .i64 g.flags 16) != 0)) (.bool true))] (by kernel_rfl) (by kernel_rfl)
    ⟨trivial, ⟨ent Try.func24 rfl rfl, fun w' hw => c_rend (s := g) (A := A) (c := c) wf_g (ok.keep hw) hd⟩, ⟨ent Try.func24 rfl rfl, fun w' hw => c_rend (s := g) (A := A) (c := c) wf_g (ok.keep hw) hd⟩, ⟨ent Try.func52 rfl rfl, fun w' hw => c_rshift g.win 0 true⟩, congrArg Value.bool h0, trivial⟩
set_option maxRecDepth 100000 in
theorem c_rbegin_1 {w : World} (g : Sg)  {A : Option Addr} {c : Nat} (ok : g.Ok A c w) (hd : g.data.size ≤ 1000000) (wf_g : g.Wf) (h0 : ((Go.bits .and .i64 g.flags 16) != 0) = false) : Calls Try.prog 33 #[g.V A c] w fun e w' => e = .returned (.agg #[.bool true, .int .u32 (EndS g), .int .u32 (EndS g), .int .u32 0, .bool false, .int .i64 (mx 1 (Shift g.win 0 true)), .int .i64 g.scale]) ∧ Below w.heap.size w w' :=
  calls_of_check rfl Try.func33 1000000 [g.V A c] [(.sched c_rbegin_T0 c_rbegin_B0 [(1, 0), (1, 1), (1, 2), (1, 3), (1, 4), (1, 5), (1, 6), (1, 7), (1, 8), (1, 9), (1, 10), (1, 11), (1, 12), (1, 13), (1, 14)] [] (.s 0 4 (.s 0 8 (.s 0 9 (.s 1 0 (.s 1 2 (.s 1 5 (.s 1 10 (.two 1 (.two 3 (.two 6 (.s 0 7 (.s 0 11 (.s 2 12 (.s 2 13 .e)))) 12 (.s 2 6 (.s 0 7 (.s 0 11 (.s 2 13 .e))))) 12 (.s 2 3 (.s 2 6 (.s 0 7 (.s 0 11 (.s 2 13 .e)))))) 12 (.s 2 1 (.s 2 3 (.s 2 6 (.s 0 7 (.s 0 11 (.s 2 13 .e))))))))))))))),
    (.call 24 [g.V A c] (.int .u32 (EndS g))),
    (.call 24 [g.V A c] (.int .u32 (EndS g))),
    (.call 52 [.int .i64 g.win, .int .i64 0, .bool true] (.int .i64 (Shift g.win 0 true))),
    (.cast 19 (.bool ((Go.bits .and .i64 g.flags 16) != 0)) (.bool false))] (by kernel_rfl) (by kernel_rfl)
    ⟨trivial, ⟨ent Try.func24 rfl rfl, fun w' hw => c_rend (s := g) (A := A) (c := c) wf_g (ok.keep hw) hd⟩, ⟨ent Try.func24 rfl rfl, fun w' hw => c_rend (s := g) (A := A) (c := c) wf_g (ok.keep hw) hd⟩, ⟨ent Try.func52 rfl rfl, fun w' hw => c_rshift g.win 0 true⟩, congrArg Value.bool h0, trivial⟩
def rbeginF (g : Sg)  : Sd := (bif (Go.bits .and .i64 g.flags 16) != 0 then ⟨true, EndS g, EndS g, g.ack, true, mx 1 (Shift g.win 0 true), g.scale⟩ else ⟨true, EndS g, EndS g, 0, false, mx 1 (Shift g.win 0 true), g.scale⟩)
theorem c_rbegin {w : World} (g : Sg)  {A : Option Addr} {c : Nat} (ok : g.Ok A c w) (hd : g.data.size ≤ 1000000) (wf_g : g.Wf) : Calls Try.prog 33 #[g.V A c] w fun e w' => e = .returned ((rbeginF g).V) ∧ Below w.heap.size w w' := by
  cases h0 : ((Go.bits .and .i64 g.flags 16) != 0) with
  | true =>
    have e : rbeginF g = ⟨true, EndS g, EndS g, g.ack, true, mx 1 (Shift g.win 0 true), g.scale⟩ := by unfold rbeginF; rw [h0, cond_true]
    rw [e]
    exact c_rbegin_0 g ok hd wf_g h0
  | false =>
    have e : rbeginF g = ⟨true, EndS g, EndS g, 0, false, mx 1 (Shift g.win 0 true), g.scale⟩ := by unfold rbeginF; rw [h0, cond_false]
    rw [e]
    exact c_rbegin_1 g ok hd wf_g h0
def c_rnote_T0 : Bool × List (List Nat × List Nat) := (true, [([], []), ([0], [0]), ([], []), ([2], [2]), ([1, 3, 3], [1, 3]), ([0, 1, 2, 3, 4], []), ([5, 4, 4, 0, 1, 2, 3, 4], [4, 5])])
def c_rnote_B0 : List Nat := [0, 1, 0, 4, 15, 31, 63]
def c_rnote_T1 : Bool × List (List Nat × List Nat) := (true, [([], []), ([0], [0]), ([], []), ([2], [2]), ([], []), ([4], [4]), ([], []), ([6], [6]), ([7], [7]), ([8], [8]), ([3, 5, 9], [3, 5, 9]), ([1, 10], [1, 10]), ([0, 1, 2, 3, 4, 5, 6, 7, 8, 9, 10, 11], []), ([12, 11, 10, 0, 1, 2, 3, 4, 5, 6, 7, 8, 9, 10, 11], [11, 12])])
def c_rnote_B1 : List Nat := [0, 1, 0, 4, 0, 16, 0, 64, 192, 448, 1020, 2047, 4095, 8191]
def c_rnote_T2 : Bool × List (List Nat × List Nat) := (true, [([], []), ([], []), ([0, 0], [0]), ([1, 2, 0, 1, 2], [1])])
def c_rnote_B2 : List Nat := [0, 0, 1, 7]
def c_rnote_T3 : Bool × List (List Nat × List Nat) := (true, [([], []), ([0], [0]), ([], []), ([], []), ([3], [3]), ([2, 4], [2, 4]), ([1, 5, 5], [1, 5]), ([0, 1, 2, 3, 4, 5, 6], []), ([7, 6, 6, 0, 1, 2, 3, 4, 5, 6], [6, 7])])
def c_rnote_B3 : List Nat := [0, 1, 0, 0, 8, 28, 63, 127, 255]
set_option maxRecDepth 100000 in
theorem c_rnote_0 {w : World} (s : Sd) (r : Sd) (g : Sg)  {A : Option Addr} {c : Nat} (ok : g.Ok A c w) (hd : g.data.size ≤ 1000000) (hbl : g.blocks.length ≤ 1000000) (wf_s : s.Wf) (wf_r : r.Wf) (wf_g : g.Wf) (h0 : ((Go.bits .and .i64 g.flags 16) == 0) = true) : Calls Try.prog 28 #[s.V, r.V, g.V A c] w fun e w' => e = .returned (.tuple #[.agg #[.bool s.on, .int .u32 (later s.fin (EndS g)), .int .u32 s.max, .int .u32 s.ack, .bool s.has, .int .i64 (mx (mx s.win 1) (Shift g.win s.scale ((Go.bits .and .i64 g.flags 2) != 0))), .int .i64 s.scale], r.V]) ∧ Below w.heap.size w w' :=
  calls_of_check rfl Try.func28 1000000 [s.V, r.V, g.V A c] [(.sched c_rnote_T0 c_rnote_B0 [(3, 1), (5, 0), (5, 1), (5, 2), (5, 3), (5, 4), (5, 5), (5, 6), (5, 7), (5, 8), (5, 9), (5, 10), (5, 11), (5, 12), (5, 13), (5, 14)] [6] (.s 0 0 (.s 1 1 (.s 1 2 (.s 2 3 (.s 2 4 (.s 0 5 (.s 3 6 .e)))))))),
    (.call 24 [g.V A c] (.int .u32 (EndS g))),
    (.call 51 [.int .u32 s.fin, .int .u32 (EndS g)] (.int .u32 (later s.fin (EndS g)))),
    (.sched c_rnote_T1 c_rnote_B1 [(3, 5), (3, 6), (5, 4), (5, 5)] [13] (.s 0 0 (.s 0 2 (.s 0 4 (.s 0 6 (.s 1 1 (.s 1 3 (.s 1 5 (.s 1 7 (.s 0 8 (.s 0 9 (.s 2 10 (.s 0 11 (.s 0 12 (.s 3 13 .e))))))))))))))),
    (.call 52 [.int .i64 g.win, .int .i64 s.scale, .bool ((Go.bits .and .i64 g.flags 2) != 0)] (.int .i64 (Shift g.win s.scale ((Go.bits .and .i64 g.flags 2) != 0)))),
    (.cast 30 (.bool ((Go.bits .and .i64 g.flags 16) == 0)) (.bool true)),
    (.sched c_rnote_T2 c_rnote_B2 [(3, 0), (3, 1), (3, 2), (3, 3), (3, 4), (3, 5), (3, 6), (4, 0), (4, 1), (4, 2), (4, 3), (4, 4), (4, 5), (4, 6)] [] (.s 1 0 (.s 1 1 (.s 2 2 (.s 2 3 .e)))))] (by kernel_rfl) (by kernel_rfl)
    ⟨trivial, ⟨ent Try.func24 rfl rfl, fun w' hw => c_rend (s := g) (A := A) (c := c) wf_g (ok.keep hw) hd⟩, ⟨ent Try.func51 rfl rfl, fun w' hw => c_rlater wf_s.fin (EndS_bd _)⟩, trivial, ⟨ent Try.func52 rfl rfl, fun w' hw => c_rshift g.win s.scale ((Go.bits .and .i64 g.flags 2) != 0)⟩, congrArg Value.bool h0, trivial, trivial⟩
set_option maxRecDepth 100000 in
theorem c_rnote_1 {w : World} (s : Sd) (r : Sd) (g : Sg)  {A : Option Addr} {c : Nat} (ok : g.Ok A c w) (hd : g.data.size ≤ 1000000) (hbl : g.blocks.length ≤ 1000000) (wf_s : s.Wf) (wf_r : r.Wf) (wf_g : g.Wf) (h0 : ((Go.bits .and .i64 g.flags 16) == 0) = false) (h1 : (s.has) = true) (h2 : (r.on) = true) : Calls Try.prog 28 #[s.V, r.V, g.V A c] w fun e w' => e = .returned (.tuple #[.agg #[.bool s.on, .int .u32 (later s.fin (EndS g)), .int .u32 s.max, .int .u32 (later s.ack g.ack), .bool true, .int .i64 (mx (mx s.win 1) (Shift g.win s.scale ((Go.bits .and .i64 g.flags 2) != 0))), .int .i64 s.scale], .agg #[.bool r.on, .int .u32 r.fin, .int .u32 (later r.max (Grant g s.scale)), .int .u32 r.ack, .bool r.has, .int .i64 r.win, .int .i64 r.scale]]) ∧ Below w.heap.size w w' :=
  calls_of_check rfl Try.func28 1000000 [s.V, r.V, g.V A c] [(.sched c_rnote_T0 c_rnote_B0 [(3, 1), (5, 0), (5, 1), (5, 2), (5, 3), (5, 4), (5, 5), (5, 6), (5, 7), (5, 8), (5, 9), (5, 10), (5, 11), (5, 12), (5, 13), (5, 14)] [6] (.s 0 0 (.s 1 1 (.s 1 2 (.s 2 3 (.s 2 4 (.s 0 5 (.s 3 6 .e)))))))),
    (.call 24 [g.V A c] (.int .u32 (EndS g))),
    (.call 51 [.int .u32 s.fin, .int .u32 (EndS g)] (.int .u32 (later s.fin (EndS g)))),
    (.sched c_rnote_T1 c_rnote_B1 [(3, 5), (3, 6), (5, 4), (5, 5)] [13] (.s 0 0 (.s 0 2 (.s 0 4 (.s 0 6 (.s 1 1 (.s 1 3 (.s 1 5 (.s 1 7 (.s 0 8 (.s 0 9 (.s 2 10 (.s 0 11 (.s 0 12 (.s 3 13 .e))))))))))))))),
    (.call 52 [.int .i64 g.win, .int .i64 s.scale, .bool ((Go.bits .and .i64 g.flags 2) != 0)] (.int .i64 (Shift g.win s.scale ((Go.bits .and .i64 g.flags 2) != 0)))),
    (.cast 30 (.bool ((Go.bits .and .i64 g.flags 16) == 0)) (.bool false)),
    (.cast 34 (.bool s.has) (.bool true)),
    (.call 51 [.int .u32 s.ack, .int .u32 g.ack] (.int .u32 (later s.ack g.ack))),
    (.cast 46 (.bool r.on) (.bool true)),
    (.sched c_rnote_T3 c_rnote_B3 [(3, 6), (4, 2), (5, 0), (5, 1), (5, 2), (5, 3), (5, 4), (5, 5), (5, 6), (5, 7), (5, 8), (5, 9), (5, 10), (5, 11), (5, 12), (5, 13), (5, 14)] [8] (.s 0 0 (.s 0 3 (.s 1 1 (.s 1 2 (.s 1 4 (.s 2 5 (.s 2 6 (.s 0 7 (.s 3 8 .e)))))))))),
    (.call 37 [g.V A c, .int .i64 s.scale] (.int .u32 (Grant g s.scale))),
    (.call 51 [.int .u32 r.max, .int .u32 (Grant g s.scale)] (.int .u32 (later r.max (Grant g s.scale)))),
    (.sched c_rnote_T2 c_rnote_B2 [(3, 0), (3, 1), (3, 2), (3, 3), (3, 4), (3, 5), (3, 6), (4, 0), (4, 1), (4, 2), (4, 3), (4, 4), (4, 5), (4, 6)] [] (.s 1 0 (.s 1 1 (.s 2 2 (.s 2 3 .e)))))] (by kernel_rfl) (by kernel_rfl)
    ⟨trivial, ⟨ent Try.func24 rfl rfl, fun w' hw => c_rend (s := g) (A := A) (c := c) wf_g (ok.keep hw) hd⟩, ⟨ent Try.func51 rfl rfl, fun w' hw => c_rlater wf_s.fin (EndS_bd _)⟩, trivial, ⟨ent Try.func52 rfl rfl, fun w' hw => c_rshift g.win s.scale ((Go.bits .and .i64 g.flags 2) != 0)⟩, congrArg Value.bool h0, congrArg Value.bool h1, ⟨ent Try.func51 rfl rfl, fun w' hw => c_rlater wf_s.ack wf_g.ack⟩, congrArg Value.bool h2, trivial, ⟨ent Try.func37 rfl rfl, fun w' hw => c_rgrant (s := g) (A := A) (c := c) s.scale wf_g (ok.keep hw) hbl⟩, ⟨ent Try.func51 rfl rfl, fun w' hw => c_rlater wf_r.max (Grant_bd _ _)⟩, trivial, trivial⟩
set_option maxRecDepth 100000 in
theorem c_rnote_2 {w : World} (s : Sd) (r : Sd) (g : Sg)  {A : Option Addr} {c : Nat} (ok : g.Ok A c w) (hd : g.data.size ≤ 1000000) (hbl : g.blocks.length ≤ 1000000) (wf_s : s.Wf) (wf_r : r.Wf) (wf_g : g.Wf) (h0 : ((Go.bits .and .i64 g.flags 16) == 0) = false) (h1 : (s.has) = true) (h2 : (r.on) = false) : Calls Try.prog 28 #[s.V, r.V, g.V A c] w fun e w' => e = .returned (.tuple #[.agg #[.bool s.on, .int .u32 (later s.fin (EndS g)), .int .u32 s.max, .int .u32 (later s.ack g.ack), .bool true, .int .i64 (mx (mx s.win 1) (Shift g.win s.scale ((Go.bits .and .i64 g.flags 2) != 0))), .int .i64 s.scale], r.V]) ∧ Below w.heap.size w w' :=
  calls_of_check rfl Try.func28 1000000 [s.V, r.V, g.V A c] [(.sched c_rnote_T0 c_rnote_B0 [(3, 1), (5, 0), (5, 1), (5, 2), (5, 3), (5, 4), (5, 5), (5, 6), (5, 7), (5, 8), (5, 9), (5, 10), (5, 11), (5, 12), (5, 13), (5, 14)] [6] (.s 0 0 (.s 1 1 (.s 1 2 (.s 2 3 (.s 2 4 (.s 0 5 (.s 3 6 .e)))))))),
    (.call 24 [g.V A c] (.int .u32 (EndS g))),
    (.call 51 [.int .u32 s.fin, .int .u32 (EndS g)] (.int .u32 (later s.fin (EndS g)))),
    (.sched c_rnote_T1 c_rnote_B1 [(3, 5), (3, 6), (5, 4), (5, 5)] [13] (.s 0 0 (.s 0 2 (.s 0 4 (.s 0 6 (.s 1 1 (.s 1 3 (.s 1 5 (.s 1 7 (.s 0 8 (.s 0 9 (.s 2 10 (.s 0 11 (.s 0 12 (.s 3 13 .e))))))))))))))),
    (.call 52 [.int .i64 g.win, .int .i64 s.scale, .bool ((Go.bits .and .i64 g.flags 2) != 0)] (.int .i64 (Shift g.win s.scale ((Go.bits .and .i64 g.flags 2) != 0)))),
    (.cast 30 (.bool ((Go.bits .and .i64 g.flags 16) == 0)) (.bool false)),
    (.cast 34 (.bool s.has) (.bool true)),
    (.call 51 [.int .u32 s.ack, .int .u32 g.ack] (.int .u32 (later s.ack g.ack))),
    (.cast 46 (.bool r.on) (.bool false)),
    (.sched c_rnote_T2 c_rnote_B2 [(3, 0), (3, 1), (3, 2), (3, 3), (3, 4), (3, 5), (3, 6), (4, 0), (4, 1), (4, 2), (4, 3), (4, 4), (4, 5), (4, 6)] [] (.s 1 0 (.s 1 1 (.s 2 2 (.s 2 3 .e)))))] (by kernel_rfl) (by kernel_rfl)
    ⟨trivial, ⟨ent Try.func24 rfl rfl, fun w' hw => c_rend (s := g) (A := A) (c := c) wf_g (ok.keep hw) hd⟩, ⟨ent Try.func51 rfl rfl, fun w' hw => c_rlater wf_s.fin (EndS_bd _)⟩, trivial, ⟨ent Try.func52 rfl rfl, fun w' hw => c_rshift g.win s.scale ((Go.bits .and .i64 g.flags 2) != 0)⟩, congrArg Value.bool h0, congrArg Value.bool h1, ⟨ent Try.func51 rfl rfl, fun w' hw => c_rlater wf_s.ack wf_g.ack⟩, congrArg Value.bool h2, trivial, trivial⟩
set_option maxRecDepth 100000 in
theorem c_rnote_3 {w : World} (s : Sd) (r : Sd) (g : Sg)  {A : Option Addr} {c : Nat} (ok : g.Ok A c w) (hd : g.data.size ≤ 1000000) (hbl : g.blocks.length ≤ 1000000) (wf_s : s.Wf) (wf_r : r.Wf) (wf_g : g.Wf) (h0 : ((Go.bits .and .i64 g.flags 16) == 0) = false) (h1 : (s.has) = false) (h2 : (r.on) = true) : Calls Try.prog 28 #[s.V, r.V, g.V A c] w fun e w' => e = .returned (.tuple #[.agg #[.bool s.on, .int .u32 (later s.fin (EndS g)), .int .u32 s.max, .int .u32 g.ack, .bool true, .int .i64 (mx (mx s.win 1) (Shift g.win s.scale ((Go.bits .and .i64 g.flags 2) != 0))), .int .i64 s.scale], .agg #[.bool r.on, .int .u32 r.fin, .int .u32 (later r.max (Grant g s.scale)), .int .u32 r.ack, .bool r.has, .int .i64 r.win, .int .i64 r.scale]]) ∧ Below w.heap.size w w' :=
  calls_of_check rfl Try.func28 1000000 [s.V, r.V, g.V A c] [(.sched c_rnote_T0 c_rnote_B0 [(3, 1), (5, 0), (5, 1), (5, 2), (5, 3), (5, 4), (5, 5), (5, 6), (5, 7), (5, 8), (5, 9), (5, 10), (5, 11), (5, 12), (5, 13), (5, 14)] [6] (.s 0 0 (.s 1 1 (.s 1 2 (.s 2 3 (.s 2 4 (.s 0 5 (.s 3 6 .e)))))))),
    (.call 24 [g.V A c] (.int .u32 (EndS g))),
    (.call 51 [.int .u32 s.fin, .int .u32 (EndS g)] (.int .u32 (later s.fin (EndS g)))),
    (.sched c_rnote_T1 c_rnote_B1 [(3, 5), (3, 6), (5, 4), (5, 5)] [13] (.s 0 0 (.s 0 2 (.s 0 4 (.s 0 6 (.s 1 1 (.s 1 3 (.s 1 5 (.s 1 7 (.s 0 8 (.s 0 9 (.s 2 10 (.s 0 11 (.s 0 12 (.s 3 13 .e))))))))))))))),
    (.call 52 [.int .i64 g.win, .int .i64 s.scale, .bool ((Go.bits .and .i64 g.flags 2) != 0)] (.int .i64 (Shift g.win s.scale ((Go.bits .and .i64 g.flags 2) != 0)))),
    (.cast 30 (.bool ((Go.bits .and .i64 g.flags 16) == 0)) (.bool false)),
    (.cast 34 (.bool s.has) (.bool false)),
    (.cast 46 (.bool r.on) (.bool true)),
    (.sched c_rnote_T3 c_rnote_B3 [(3, 6), (4, 2), (5, 0), (5, 1), (5, 2), (5, 3), (5, 4), (5, 5), (5, 6), (5, 7), (5, 8), (5, 9), (5, 10), (5, 11), (5, 12), (5, 13), (5, 14)] [8] (.s 0 0 (.s 0 3 (.s 1 1 (.s 1 2 (.s 1 4 (.s 2 5 (.s 2 6 (.s 0 7 (.s 3 8 .e)))))))))),
    (.call 37 [g.V A c, .int .i64 s.scale] (.int .u32 (Grant g s.scale))),
    (.call 51 [.int .u32 r.max, .int .u32 (Grant g s.scale)] (.int .u32 (later r.max (Grant g s.scale)))),
    (.sched c_rnote_T2 c_rnote_B2 [(3, 0), (3, 1), (3, 2), (3, 3), (3, 4), (3, 5), (3, 6), (4, 0), (4, 1), (4, 2), (4, 3), (4, 4), (4, 5), (4, 6)] [] (.s 1 0 (.s 1 1 (.s 2 2 (.s 2 3 .e)))))] (by kernel_rfl) (by kernel_rfl)
    ⟨trivial, ⟨ent Try.func24 rfl rfl, fun w' hw => c_rend (s := g) (A := A) (c := c) wf_g (ok.keep hw) hd⟩, ⟨ent Try.func51 rfl rfl, fun w' hw => c_rlater wf_s.fin (EndS_bd _)⟩, trivial, ⟨ent Try.func52 rfl rfl, fun w' hw => c_rshift g.win s.scale ((Go.bits .and .i64 g.flags 2) != 0)⟩, congrArg Value.bool h0, congrArg Value.bool h1, congrArg Value.bool h2, trivial, ⟨ent Try.func37 rfl rfl, fun w' hw => c_rgrant (s := g) (A := A) (c := c) s.scale wf_g (ok.keep hw) hbl⟩, ⟨ent Try.func51 rfl rfl, fun w' hw => c_rlater wf_r.max (Grant_bd _ _)⟩, trivial, trivial⟩
set_option maxRecDepth 100000 in
theorem c_rnote_4 {w : World} (s : Sd) (r : Sd) (g : Sg)  {A : Option Addr} {c : Nat} (ok : g.Ok A c w) (hd : g.data.size ≤ 1000000) (hbl : g.blocks.length ≤ 1000000) (wf_s : s.Wf) (wf_r : r.Wf) (wf_g : g.Wf) (h0 : ((Go.bits .and .i64 g.flags 16) == 0) = false) (h1 : (s.has) = false) (h2 : (r.on) = false) : Calls Try.prog 28 #[s.V, r.V, g.V A c] w fun e w' => e = .returned (.tuple #[.agg #[.bool s.on, .int .u32 (later s.fin (EndS g)), .int .u32 s.max, .int .u32 g.ack, .bool true, .int .i64 (mx (mx s.win 1) (Shift g.win s.scale ((Go.bits .and .i64 g.flags 2) != 0))), .int .i64 s.scale], r.V]) ∧ Below w.heap.size w w' :=
  calls_of_check rfl Try.func28 1000000 [s.V, r.V, g.V A c] [(.sched c_rnote_T0 c_rnote_B0 [(3, 1), (5, 0), (5, 1), (5, 2), (5, 3), (5, 4), (5, 5), (5, 6), (5, 7), (5, 8), (5, 9), (5, 10), (5, 11), (5, 12), (5, 13), (5, 14)] [6] (.s 0 0 (.s 1 1 (.s 1 2 (.s 2 3 (.s 2 4 (.s 0 5 (.s 3 6 .e)))))))),
    (.call 24 [g.V A c] (.int .u32 (EndS g))),
    (.call 51 [.int .u32 s.fin, .int .u32 (EndS g)] (.int .u32 (later s.fin (EndS g)))),
    (.sched c_rnote_T1 c_rnote_B1 [(3, 5), (3, 6), (5, 4), (5, 5)] [13] (.s 0 0 (.s 0 2 (.s 0 4 (.s 0 6 (.s 1 1 (.s 1 3 (.s 1 5 (.s 1 7 (.s 0 8 (.s 0 9 (.s 2 10 (.s 0 11 (.s 0 12 (.s 3 13 .e))))))))))))))),
    (.call 52 [.int .i64 g.win, .int .i64 s.scale, .bool ((Go.bits .and .i64 g.flags 2) != 0)] (.int .i64 (Shift g.win s.scale ((Go.bits .and .i64 g.flags 2) != 0)))),
    (.cast 30 (.bool ((Go.bits .and .i64 g.flags 16) == 0)) (.bool false)),
    (.cast 34 (.bool s.has) (.bool false)),
    (.cast 46 (.bool r.on) (.bool false)),
    (.sched c_rnote_T2 c_rnote_B2 [(3, 0), (3, 1), (3, 2), (3, 3), (3, 4), (3, 5), (3, 6), (4, 0), (4, 1), (4, 2), (4, 3), (4, 4), (4, 5), (4, 6)] [] (.s 1 0 (.s 1 1 (.s 2 2 (.s 2 3 .e)))))] (by kernel_rfl) (by kernel_rfl)
    ⟨trivial, ⟨ent Try.func24 rfl rfl, fun w' hw => c_rend (s := g) (A := A) (c := c) wf_g (ok.keep hw) hd⟩, ⟨ent Try.func51 rfl rfl, fun w' hw => c_rlater wf_s.fin (EndS_bd _)⟩, trivial, ⟨ent Try.func52 rfl rfl, fun w' hw => c_rshift g.win s.scale ((Go.bits .and .i64 g.flags 2) != 0)⟩, congrArg Value.bool h0, congrArg Value.bool h1, congrArg Value.bool h2, trivial, trivial⟩
def rnoteF (s : Sd) (r : Sd) (g : Sg)  : Sd × Sd := (bif (Go.bits .and .i64 g.flags 16) == 0 then ({ s with fin := later s.fin (EndS g), win := mx (mx s.win 1) (Shift g.win s.scale ((Go.bits .and .i64 g.flags 2) != 0)) }, r) else (bif s.has then (bif r.on then (⟨s.on, later s.fin (EndS g), s.max, later s.ack g.ack, true, mx (mx s.win 1) (Shift g.win s.scale ((Go.bits .and .i64 g.flags 2) != 0)), s.scale⟩, { r with max := later r.max (Grant g s.scale) }) else (⟨s.on, later s.fin (EndS g), s.max, later s.ack g.ack, true, mx (mx s.win 1) (Shift g.win s.scale ((Go.bits .and .i64 g.flags 2) != 0)), s.scale⟩, r)) else (bif r.on then (⟨s.on, later s.fin (EndS g), s.max, g.ack, true, mx (mx s.win 1) (Shift g.win s.scale ((Go.bits .and .i64 g.flags 2) != 0)), s.scale⟩, { r with max := later r.max (Grant g s.scale) }) else (⟨s.on, later s.fin (EndS g), s.max, g.ack, true, mx (mx s.win 1) (Shift g.win s.scale ((Go.bits .and .i64 g.flags 2) != 0)), s.scale⟩, r))))
theorem c_rnote {w : World} (s : Sd) (r : Sd) (g : Sg)  {A : Option Addr} {c : Nat} (ok : g.Ok A c w) (hd : g.data.size ≤ 1000000) (hbl : g.blocks.length ≤ 1000000) (wf_s : s.Wf) (wf_r : r.Wf) (wf_g : g.Wf) : Calls Try.prog 28 #[s.V, r.V, g.V A c] w fun e w' => e = .returned (.tuple #[(rnoteF s r g).1.V, (rnoteF s r g).2.V]) ∧ Below w.heap.size w w' := by
  cases h0 : ((Go.bits .and .i64 g.flags 16) == 0) with
  | true =>
    have e : rnoteF s r g = ({ s with fin := later s.fin (EndS g), win := mx (mx s.win 1) (Shift g.win s.scale ((Go.bits .and .i64 g.flags 2) != 0)) }, r) := by unfold rnoteF; rw [h0, cond_true]
    rw [e]
    exact c_rnote_0 s r g ok hd hbl wf_s wf_r wf_g h0
  | false =>
    cases h1 : (s.has) with
    | true =>
      cases h2 : (r.on) with
      | true =>
        have e : rnoteF s r g = (⟨s.on, later s.fin (EndS g), s.max, later s.ack g.ack, true, mx (mx s.win 1) (Shift g.win s.scale ((Go.bits .and .i64 g.flags 2) != 0)), s.scale⟩, { r with max := later r.max (Grant g s.scale) }) := by unfold rnoteF; rw [h0, cond_false, h1, cond_true, h2, cond_true]
        rw [e]
        exact c_rnote_1 s r g ok hd hbl wf_s wf_r wf_g h0 h1 h2
      | false =>
        have e : rnoteF s r g = (⟨s.on, later s.fin (EndS g), s.max, later s.ack g.ack, true, mx (mx s.win 1) (Shift g.win s.scale ((Go.bits .and .i64 g.flags 2) != 0)), s.scale⟩, r) := by unfold rnoteF; rw [h0, cond_false, h1, cond_true, h2, cond_false]
        rw [e]
        exact c_rnote_2 s r g ok hd hbl wf_s wf_r wf_g h0 h1 h2
    | false =>
      cases h2 : (r.on) with
      | true =>
        have e : rnoteF s r g = (⟨s.on, later s.fin (EndS g), s.max, g.ack, true, mx (mx s.win 1) (Shift g.win s.scale ((Go.bits .and .i64 g.flags 2) != 0)), s.scale⟩, { r with max := later r.max (Grant g s.scale) }) := by unfold rnoteF; rw [h0, cond_false, h1, cond_false, h2, cond_true]
        rw [e]
        exact c_rnote_3 s r g ok hd hbl wf_s wf_r wf_g h0 h1 h2
      | false =>
        have e : rnoteF s r g = (⟨s.on, later s.fin (EndS g), s.max, g.ack, true, mx (mx s.win 1) (Shift g.win s.scale ((Go.bits .and .i64 g.flags 2) != 0)), s.scale⟩, r) := by unfold rnoteF; rw [h0, cond_false, h1, cond_false, h2, cond_false]
        rw [e]
        exact c_rnote_4 s r g ok hd hbl wf_s wf_r wf_g h0 h1 h2
def c_rscales_T0 : Bool × List (List Nat × List Nat) := (true, [([], []), ([], []), ([0, 0], [0]), ([1, 2, 0, 1, 2], [1])])
def c_rscales_B0 : List Nat := [0, 0, 1, 7]
set_option maxRecDepth 100000 in
theorem c_rscales_0 {w : World} (s : Sd) (r : Sd)  : Calls Try.prog 31 #[s.V, r.V] w fun e w' => e = .returned (.tuple #[.agg #[.bool s.on, .int .u32 s.fin, .int .u32 s.max, .int .u32 s.ack, .bool s.has, .int .i64 s.win, .int .i64 (AgreeA s.scale r.scale)], .agg #[.bool r.on, .int .u32 r.fin, .int .u32 r.max, .int .u32 r.ack, .bool r.has, .int .i64 r.win, .int .i64 (AgreeA r.scale s.scale)]]) ∧ Below w.heap.size w w' :=
  calls_of_check rfl Try.func31 1000000 [s.V, r.V] [(.call 54 [.int .i64 s.scale, .int .i64 r.scale] (.tuple #[.int .i64 (AgreeA s.scale r.scale), .int .i64 (AgreeA r.scale s.scale)])),
    (.sched c_rscales_T0 c_rscales_B0 [(2, 0), (2, 1), (2, 2), (2, 3), (2, 4), (2, 5), (2, 6), (3, 0), (3, 1), (3, 2), (3, 3), (3, 4), (3, 5), (3, 6)] [] (.s 1 0 (.s 1 1 (.s 2 2 (.s 2 3 .e)))))] (by kernel_rfl) (by kernel_rfl)
    ⟨⟨ent Try.func54 rfl rfl, fun w' hw => c_ragree s.scale r.scale⟩, trivial, trivial⟩
def rscalesF (s : Sd) (r : Sd)  : Sd × Sd := ({ s with scale := AgreeA s.scale r.scale }, { r with scale := AgreeA r.scale s.scale })
theorem c_rscales {w : World} (s : Sd) (r : Sd)  : Calls Try.prog 31 #[s.V, r.V] w fun e w' => e = .returned (.tuple #[(rscalesF s r).1.V, (rscalesF s r).2.V]) ∧ Below w.heap.size w w' := by
  exact c_rscales_0 s r
def c_show_T0 : Bool × List (List Nat × List Nat) := (true, [([], []), ([0], [0]), ([1], [1]), ([2], [2]), ([3], [3]), ([], []), ([5], [5]), ([6], [6]), ([7, 3], [7]), ([4, 8], [4, 8]), ([9], [9]), ([], []), ([11], [11]), ([12, 8], [12]), ([10, 13], [10, 13]), ([14], [14]), ([], []), ([16], [16]), ([17, 13], [17]), ([15, 18], [15, 18]), ([19], [19]), ([], []), ([20, 21], [20, 21]), ([22, 18, 0, 1, 2, 3, 4, 5, 6, 7, 8, 9, 10, 11, 12, 13, 14, 15, 16, 17, 18, 19, 20, 21, 22], [22])])
def c_show_B0 : List Nat := [0, 1, 3, 7, 15, 0, 32, 96, 239, 511, 1023, 0, 2048, 6639, 16383, 32767, 0, 65536, 211439, 524287, 1048575, 0, 4194303, 8388607]
set_option maxRecDepth 100000 in
theorem c_show_0 {w : World} (s : Sd)  (wf_s : s.Wf) (hw0 : 0 ≤ s.win) (hw1 : s.win ≤ 1099511627776) (hs0 : -1099511627776 ≤ s.scale) (hs1 : s.scale ≤ 1099511627776) (h0 : (!(Sd.eq s ({ s with on := true }))) = true) : Calls Try.prog 34 #[s.V] w fun e w' => e = .returned (.string ⟨#[111, 102, 102]⟩) ∧ Below w.heap.size w w' :=
  calls_of_check rfl Try.func34 1000000 [s.V] [(.orc 9 (.binOp .neq 24 (.const (s.V)) (.const (.agg #[.bool true, .int .u32 s.fin, .int .u32 s.max, .int .u32 s.ack, .bool s.has, .int .i64 s.win, .int .i64 s.scale])) 24) (.bool true))] (by kernel_rfl) (by kernel_rfl)
    ⟨orc_eq (congrArg Value.bool h0) (orc_neq (by kernel_rfl) (eq24 s ({ s with on := true }))), trivial⟩
set_option maxRecDepth 100000 in
theorem c_show_1 {w : World} (s : Sd)  (wf_s : s.Wf) (hw0 : 0 ≤ s.win) (hw1 : s.win ≤ 1099511627776) (hs0 : -1099511627776 ≤ s.scale) (hs1 : s.scale ≤ 1099511627776) (h0 : (!(Sd.eq s ({ s with on := true }))) = false) (h1 : (s.has) = true) : Calls Try.prog 34 #[s.V] w fun e w' => e = .returned (.string (((((((((dig s.fin) ++ (⟨#[32]⟩ : ByteArray)) ++ (dig s.max : ByteArray)) ++ (⟨#[32]⟩ : ByteArray)) ++ (dig s.win : ByteArray)) ++ (⟨#[32]⟩ : ByteArray)) ++ (dig s.scale : ByteArray)) ++ (⟨#[32]⟩ : ByteArray)) ++ (dig s.ack : ByteArray))) ∧ Below w.heap.size w w' :=
  calls_of_check rfl Try.func34 1000000 [s.V] [(.orc 9 (.binOp .neq 24 (.const (s.V)) (.const (.agg #[.bool true, .int .u32 s.fin, .int .u32 s.max, .int .u32 s.ack, .bool s.has, .int .i64 s.win, .int .i64 s.scale])) 24) (.bool false)),
    (.cast 11 (.bool s.has) (.bool true)),
    (.cast 14 (.int .i64 (IntKind.i64.wrap s.ack)) (.int .i64 s.ack)),
    (.call 55 [.int .i64 s.ack] (.string (dig s.ack))),
    (.sched c_show_T0 c_show_B0 [(1, 1), (1, 2), (1, 5), (1, 6)] [] (.s 0 0 (.s 0 5 (.s 0 11 (.s 0 16 (.s 0 21 (.s 1 1 (.s 0 2 (.s 1 6 (.s 0 7 (.s 1 12 (.s 1 17 (.s 2 3 (.s 1 4 (.s 2 8 (.s 1 9 (.s 1 10 (.s 2 13 (.s 1 14 (.s 1 15 (.s 2 18 (.s 1 19 (.s 1 20 (.s 1 22 (.s 0 23 .e))))))))))))))))))))))))),
    (.cast 18 (.int .i64 (IntKind.i64.wrap s.fin)) (.int .i64 s.fin)),
    (.cast 23 (.int .i64 (IntKind.i64.wrap s.max)) (.int .i64 s.max)),
    (.call 55 [.int .i64 s.fin] (.string (dig s.fin))),
    (.orc 20 (.binOp .add 9 (.const (.string (dig s.fin))) (.const (.string ⟨#[32]⟩)) 9) (.string ((dig s.fin) ++ (⟨#[32]⟩ : ByteArray)))),
    (.call 55 [.int .i64 s.max] (.string (dig s.max))),
    (.orc 25 (.binOp .add 9 (.const (.string ((dig s.fin) ++ (⟨#[32]⟩ : ByteArray)))) (.const (.string (dig s.max))) 9) (.string (((dig s.fin) ++ (⟨#[32]⟩ : ByteArray)) ++ (dig s.max : ByteArray)))),
    (.orc 26 (.binOp .add 9 (.const (.string (((dig s.fin) ++ (⟨#[32]⟩ : ByteArray)) ++ (dig s.max : ByteArray)))) (.const (.string ⟨#[32]⟩)) 9) (.string ((((dig s.fin) ++ (⟨#[32]⟩ : ByteArray)) ++ (dig s.max : ByteArray)) ++ (⟨#[32]⟩ : ByteArray)))),
    (.call 55 [.int .i64 s.win] (.string (dig s.win))),
    (.orc 30 (.binOp .add 9 (.const (.string ((((dig s.fin) ++ (⟨#[32]⟩ : ByteArray)) ++ (dig s.max : ByteArray)) ++ (⟨#[32]⟩ : ByteArray)))) (.const (.string (dig s.win))) 9) (.string (((((dig s.fin) ++ (⟨#[32]⟩ : ByteArray)) ++ (dig s.max : ByteArray)) ++ (⟨#[32]⟩ : ByteArray)) ++ (dig s.win : ByteArray)))),
    (.orc 31 (.binOp .add 9 (.const (.string (((((dig s.fin) ++ (⟨#[32]⟩ : ByteArray)) ++ (dig s.max : ByteArray)) ++ (⟨#[32]⟩ : ByteArray)) ++ (dig s.win : ByteArray)))) (.const (.string ⟨#[32]⟩)) 9) (.string ((((((dig s.fin) ++ (⟨#[32]⟩ : ByteArray)) ++ (dig s.max : ByteArray)) ++ (⟨#[32]⟩ : ByteArray)) ++ (dig s.win : ByteArray)) ++ (⟨#[32]⟩ : ByteArray)))),
    (.call 55 [.int .i64 s.scale] (.string (dig s.scale))),
    (.orc 35 (.binOp .add 9 (.const (.string ((((((dig s.fin) ++ (⟨#[32]⟩ : ByteArray)) ++ (dig s.max : ByteArray)) ++ (⟨#[32]⟩ : ByteArray)) ++ (dig s.win : ByteArray)) ++ (⟨#[32]⟩ : ByteArray)))) (.const (.string (dig s.scale))) 9) (.string (((((((dig s.fin) ++ (⟨#[32]⟩ : ByteArray)) ++ (dig s.max : ByteArray)) ++ (⟨#[32]⟩ : ByteArray)) ++ (dig s.win : ByteArray)) ++ (⟨#[32]⟩ : ByteArray)) ++ (dig s.scale : ByteArray)))),
    (.orc 36 (.binOp .add 9 (.const (.string (((((((dig s.fin) ++ (⟨#[32]⟩ : ByteArray)) ++ (dig s.max : ByteArray)) ++ (⟨#[32]⟩ : ByteArray)) ++ (dig s.win : ByteArray)) ++ (⟨#[32]⟩ : ByteArray)) ++ (dig s.scale : ByteArray)))) (.const (.string ⟨#[32]⟩)) 9) (.string ((((((((dig s.fin) ++ (⟨#[32]⟩ : ByteArray)) ++ (dig s.max : ByteArray)) ++ (⟨#[32]⟩ : ByteArray)) ++ (dig s.win : ByteArray)) ++ (⟨#[32]⟩ : ByteArray)) ++ (dig s.scale : ByteArray)) ++ (⟨#[32]⟩ : ByteArray)))),
    (.orc 38 (.binOp .add 9 (.const (.string ((((((((dig s.fin) ++ (⟨#[32]⟩ : ByteArray)) ++ (dig s.max : ByteArray)) ++ (⟨#[32]⟩ : ByteArray)) ++ (dig s.win : ByteArray)) ++ (⟨#[32]⟩ : ByteArray)) ++ (dig s.scale : ByteArray)) ++ (⟨#[32]⟩ : ByteArray)))) (.const (.string (dig s.ack))) 9) (.string (((((((((dig s.fin) ++ (⟨#[32]⟩ : ByteArray)) ++ (dig s.max : ByteArray)) ++ (⟨#[32]⟩ : ByteArray)) ++ (dig s.win : ByteArray)) ++ (⟨#[32]⟩ : ByteArray)) ++ (dig s.scale : ByteArray)) ++ (⟨#[32]⟩ : ByteArray)) ++ (dig s.ack : ByteArray))))] (by kernel_rfl) (by kernel_rfl)
    ⟨orc_eq (congrArg Value.bool h0) (orc_neq (by kernel_rfl) (eq24 s ({ s with on := true }))), congrArg Value.bool h1, congrArg (Value.int .i64) (wr64 (by have := wf_s.ack; omega)), ⟨ent Try.func55 rfl rfl, fun w' hw => c_decimal (by have := wf_s.ack; omega) (by have := wf_s.ack; omega)⟩, trivial, congrArg (Value.int .i64) (wr64 (by have := wf_s.fin; omega)), congrArg (Value.int .i64) (wr64 (by have := wf_s.max; omega)), ⟨ent Try.func55 rfl rfl, fun w' hw => c_decimal (by have := wf_s.fin; omega) (by have := wf_s.fin; omega)⟩, orc_add (dig_size (by have := wf_s.fin; omega) (by have := wf_s.fin; omega)) (Nat.le_of_eq (rfl : (⟨#[32]⟩ : ByteArray).size = 1)) (by decide), ⟨ent Try.func55 rfl rfl, fun w' hw => c_decimal (by have := wf_s.max; omega) (by have := wf_s.max; omega)⟩, orc_add (sz_add (dig_size (by have := wf_s.fin; omega) (by have := wf_s.fin; omega)) (Nat.le_of_eq (rfl : (⟨#[32]⟩ : ByteArray).size = 1))) (dig_size (by have := wf_s.max; omega) (by have := wf_s.max; omega)) (by decide), orc_add (sz_add (sz_add (dig_size (by have := wf_s.fin; omega) (by have := wf_s.fin; omega)) (Nat.le_of_eq (rfl : (⟨#[32]⟩ : ByteArray).size = 1))) (dig_size (by have := wf_s.max; omega) (by have := wf_s.max; omega))) (Nat.le_of_eq (rfl : (⟨#[32]⟩ : ByteArray).size = 1)) (by decide), ⟨ent Try.func55 rfl rfl, fun w' hw => c_decimal (by omega) (by omega)⟩, orc_add (sz_add (sz_add (sz_add (dig_size (by have := wf_s.fin; omega) (by have := wf_s.fin; omega)) (Nat.le_of_eq (rfl : (⟨#[32]⟩ : ByteArray).size = 1))) (dig_size (by have := wf_s.max; omega) (by have := wf_s.max; omega))) (Nat.le_of_eq (rfl : (⟨#[32]⟩ : ByteArray).size = 1))) (dig_size (by omega) (by omega)) (by decide), orc_add (sz_add (sz_add (sz_add (sz_add (dig_size (by have := wf_s.fin; omega) (by have := wf_s.fin; omega)) (Nat.le_of_eq (rfl : (⟨#[32]⟩ : ByteArray).size = 1))) (dig_size (by have := wf_s.max; omega) (by have := wf_s.max; omega))) (Nat.le_of_eq (rfl : (⟨#[32]⟩ : ByteArray).size = 1))) (dig_size (by omega) (by omega))) (Nat.le_of_eq (rfl : (⟨#[32]⟩ : ByteArray).size = 1)) (by decide), ⟨ent Try.func55 rfl rfl, fun w' hw => c_decimal (by omega) (by omega)⟩, orc_add (sz_add (sz_add (sz_add (sz_add (sz_add (dig_size (by have := wf_s.fin; omega) (by have := wf_s.fin; omega)) (Nat.le_of_eq (rfl : (⟨#[32]⟩ : ByteArray).size = 1))) (dig_size (by have := wf_s.max; omega) (by have := wf_s.max; omega))) (Nat.le_of_eq (rfl : (⟨#[32]⟩ : ByteArray).size = 1))) (dig_size (by omega) (by omega))) (Nat.le_of_eq (rfl : (⟨#[32]⟩ : ByteArray).size = 1))) (dig_size (by omega) (by omega)) (by decide), orc_add (sz_add (sz_add (sz_add (sz_add (sz_add (sz_add (dig_size (by have := wf_s.fin; omega) (by have := wf_s.fin; omega)) (Nat.le_of_eq (rfl : (⟨#[32]⟩ : ByteArray).size = 1))) (dig_size (by have := wf_s.max; omega) (by have := wf_s.max; omega))) (Nat.le_of_eq (rfl : (⟨#[32]⟩ : ByteArray).size = 1))) (dig_size (by omega) (by omega))) (Nat.le_of_eq (rfl : (⟨#[32]⟩ : ByteArray).size = 1))) (dig_size (by omega) (by omega))) (Nat.le_of_eq (rfl : (⟨#[32]⟩ : ByteArray).size = 1)) (by decide), orc_add (sz_add (sz_add (sz_add (sz_add (sz_add (sz_add (sz_add (dig_size (by have := wf_s.fin; omega) (by have := wf_s.fin; omega)) (Nat.le_of_eq (rfl : (⟨#[32]⟩ : ByteArray).size = 1))) (dig_size (by have := wf_s.max; omega) (by have := wf_s.max; omega))) (Nat.le_of_eq (rfl : (⟨#[32]⟩ : ByteArray).size = 1))) (dig_size (by omega) (by omega))) (Nat.le_of_eq (rfl : (⟨#[32]⟩ : ByteArray).size = 1))) (dig_size (by omega) (by omega))) (Nat.le_of_eq (rfl : (⟨#[32]⟩ : ByteArray).size = 1))) (dig_size (by have := wf_s.ack; omega) (by have := wf_s.ack; omega)) (by decide), trivial⟩
set_option maxRecDepth 100000 in
theorem c_show_2 {w : World} (s : Sd)  (wf_s : s.Wf) (hw0 : 0 ≤ s.win) (hw1 : s.win ≤ 1099511627776) (hs0 : -1099511627776 ≤ s.scale) (hs1 : s.scale ≤ 1099511627776) (h0 : (!(Sd.eq s ({ s with on := true }))) = false) (h1 : (s.has) = false) : Calls Try.prog 34 #[s.V] w fun e w' => e = .returned (.string (((((((((dig s.fin) ++ (⟨#[32]⟩ : ByteArray)) ++ (dig s.max : ByteArray)) ++ (⟨#[32]⟩ : ByteArray)) ++ (dig s.win : ByteArray)) ++ (⟨#[32]⟩ : ByteArray)) ++ (dig s.scale : ByteArray)) ++ (⟨#[32]⟩ : ByteArray)) ++ (⟨#[45]⟩ : ByteArray))) ∧ Below w.heap.size w w' :=
  calls_of_check rfl Try.func34 1000000 [s.V] [(.orc 9 (.binOp .neq 24 (.const (s.V)) (.const (.agg #[.bool true, .int .u32 s.fin, .int .u32 s.max, .int .u32 s.ack, .bool s.has, .int .i64 s.win, .int .i64 s.scale])) 24) (.bool false)),
    (.cast 11 (.bool s.has) (.bool false)),
    (.sched c_show_T0 c_show_B0 [(1, 1), (1, 2), (1, 5), (1, 6)] [] (.s 0 0 (.s 0 5 (.s 0 11 (.s 0 16 (.s 0 21 (.s 1 1 (.s 0 2 (.s 1 6 (.s 0 7 (.s 1 12 (.s 1 17 (.s 2 3 (.s 1 4 (.s 2 8 (.s 1 9 (.s 1 10 (.s 2 13 (.s 1 14 (.s 1 15 (.s 2 18 (.s 1 19 (.s 1 20 (.s 1 22 (.s 0 23 .e))))))))))))))))))))))))),
    (.cast 18 (.int .i64 (IntKind.i64.wrap s.fin)) (.int .i64 s.fin)),
    (.cast 23 (.int .i64 (IntKind.i64.wrap s.max)) (.int .i64 s.max)),
    (.call 55 [.int .i64 s.fin] (.string (dig s.fin))),
    (.orc 20 (.binOp .add 9 (.const (.string (dig s.fin))) (.const (.string ⟨#[32]⟩)) 9) (.string ((dig s.fin) ++ (⟨#[32]⟩ : ByteArray)))),
    (.call 55 [.int .i64 s.max] (.string (dig s.max))),
    (.orc 25 (.binOp .add 9 (.const (.string ((dig s.fin) ++ (⟨#[32]⟩ : ByteArray)))) (.const (.string (dig s.max))) 9) (.string (((dig s.fin) ++ (⟨#[32]⟩ : ByteArray)) ++ (dig s.max : ByteArray)))),
    (.orc 26 (.binOp .add 9 (.const (.string (((dig s.fin) ++ (⟨#[32]⟩ : ByteArray)) ++ (dig s.max : ByteArray)))) (.const (.string ⟨#[32]⟩)) 9) (.string ((((dig s.fin) ++ (⟨#[32]⟩ : ByteArray)) ++ (dig s.max : ByteArray)) ++ (⟨#[32]⟩ : ByteArray)))),
    (.call 55 [.int .i64 s.win] (.string (dig s.win))),
    (.orc 30 (.binOp .add 9 (.const (.string ((((dig s.fin) ++ (⟨#[32]⟩ : ByteArray)) ++ (dig s.max : ByteArray)) ++ (⟨#[32]⟩ : ByteArray)))) (.const (.string (dig s.win))) 9) (.string (((((dig s.fin) ++ (⟨#[32]⟩ : ByteArray)) ++ (dig s.max : ByteArray)) ++ (⟨#[32]⟩ : ByteArray)) ++ (dig s.win : ByteArray)))),
    (.orc 31 (.binOp .add 9 (.const (.string (((((dig s.fin) ++ (⟨#[32]⟩ : ByteArray)) ++ (dig s.max : ByteArray)) ++ (⟨#[32]⟩ : ByteArray)) ++ (dig s.win : ByteArray)))) (.const (.string ⟨#[32]⟩)) 9) (.string ((((((dig s.fin) ++ (⟨#[32]⟩ : ByteArray)) ++ (dig s.max : ByteArray)) ++ (⟨#[32]⟩ : ByteArray)) ++ (dig s.win : ByteArray)) ++ (⟨#[32]⟩ : ByteArray)))),
    (.call 55 [.int .i64 s.scale] (.string (dig s.scale))),
    (.orc 35 (.binOp .add 9 (.const (.string ((((((dig s.fin) ++ (⟨#[32]⟩ : ByteArray)) ++ (dig s.max : ByteArray)) ++ (⟨#[32]⟩ : ByteArray)) ++ (dig s.win : ByteArray)) ++ (⟨#[32]⟩ : ByteArray)))) (.const (.string (dig s.scale))) 9) (.string (((((((dig s.fin) ++ (⟨#[32]⟩ : ByteArray)) ++ (dig s.max : ByteArray)) ++ (⟨#[32]⟩ : ByteArray)) ++ (dig s.win : ByteArray)) ++ (⟨#[32]⟩ : ByteArray)) ++ (dig s.scale : ByteArray)))),
    (.orc 36 (.binOp .add 9 (.const (.string (((((((dig s.fin) ++ (⟨#[32]⟩ : ByteArray)) ++ (dig s.max : ByteArray)) ++ (⟨#[32]⟩ : ByteArray)) ++ (dig s.win : ByteArray)) ++ (⟨#[32]⟩ : ByteArray)) ++ (dig s.scale : ByteArray)))) (.const (.string ⟨#[32]⟩)) 9) (.string ((((((((dig s.fin) ++ (⟨#[32]⟩ : ByteArray)) ++ (dig s.max : ByteArray)) ++ (⟨#[32]⟩ : ByteArray)) ++ (dig s.win : ByteArray)) ++ (⟨#[32]⟩ : ByteArray)) ++ (dig s.scale : ByteArray)) ++ (⟨#[32]⟩ : ByteArray)))),
    (.orc 38 (.binOp .add 9 (.const (.string ((((((((dig s.fin) ++ (⟨#[32]⟩ : ByteArray)) ++ (dig s.max : ByteArray)) ++ (⟨#[32]⟩ : ByteArray)) ++ (dig s.win : ByteArray)) ++ (⟨#[32]⟩ : ByteArray)) ++ (dig s.scale : ByteArray)) ++ (⟨#[32]⟩ : ByteArray)))) (.const (.string ⟨#[45]⟩)) 9) (.string (((((((((dig s.fin) ++ (⟨#[32]⟩ : ByteArray)) ++ (dig s.max : ByteArray)) ++ (⟨#[32]⟩ : ByteArray)) ++ (dig s.win : ByteArray)) ++ (⟨#[32]⟩ : ByteArray)) ++ (dig s.scale : ByteArray)) ++ (⟨#[32]⟩ : ByteArray)) ++ (⟨#[45]⟩ : ByteArray))))] (by kernel_rfl) (by kernel_rfl)
    ⟨orc_eq (congrArg Value.bool h0) (orc_neq (by kernel_rfl) (eq24 s ({ s with on := true }))), congrArg Value.bool h1, trivial, congrArg (Value.int .i64) (wr64 (by have := wf_s.fin; omega)), congrArg (Value.int .i64) (wr64 (by have := wf_s.max; omega)), ⟨ent Try.func55 rfl rfl, fun w' hw => c_decimal (by have := wf_s.fin; omega) (by have := wf_s.fin; omega)⟩, orc_add (dig_size (by have := wf_s.fin; omega) (by have := wf_s.fin; omega)) (Nat.le_of_eq (rfl : (⟨#[32]⟩ : ByteArray).size = 1)) (by decide), ⟨ent Try.func55 rfl rfl, fun w' hw => c_decimal (by have := wf_s.max; omega) (by have := wf_s.max; omega)⟩, orc_add (sz_add (dig_size (by have := wf_s.fin; omega) (by have := wf_s.fin; omega)) (Nat.le_of_eq (rfl : (⟨#[32]⟩ : ByteArray).size = 1))) (dig_size (by have := wf_s.max; omega) (by have := wf_s.max; omega)) (by decide), orc_add (sz_add (sz_add (dig_size (by have := wf_s.fin; omega) (by have := wf_s.fin; omega)) (Nat.le_of_eq (rfl : (⟨#[32]⟩ : ByteArray).size = 1))) (dig_size (by have := wf_s.max; omega) (by have := wf_s.max; omega))) (Nat.le_of_eq (rfl : (⟨#[32]⟩ : ByteArray).size = 1)) (by decide), ⟨ent Try.func55 rfl rfl, fun w' hw => c_decimal (by omega) (by omega)⟩, orc_add (sz_add (sz_add (sz_add (dig_size (by have := wf_s.fin; omega) (by have := wf_s.fin; omega)) (Nat.le_of_eq (rfl : (⟨#[32]⟩ : ByteArray).size = 1))) (dig_size (by have := wf_s.max; omega) (by have := wf_s.max; omega))) (Nat.le_of_eq (rfl : (⟨#[32]⟩ : ByteArray).size = 1))) (dig_size (by omega) (by omega)) (by decide), orc_add (sz_add (sz_add (sz_add (sz_add (dig_size (by have := wf_s.fin; omega) (by have := wf_s.fin; omega)) (Nat.le_of_eq (rfl : (⟨#[32]⟩ : ByteArray).size = 1))) (dig_size (by have := wf_s.max; omega) (by have := wf_s.max; omega))) (Nat.le_of_eq (rfl : (⟨#[32]⟩ : ByteArray).size = 1))) (dig_size (by omega) (by omega))) (Nat.le_of_eq (rfl : (⟨#[32]⟩ : ByteArray).size = 1)) (by decide), ⟨ent Try.func55 rfl rfl, fun w' hw => c_decimal (by omega) (by omega)⟩, orc_add (sz_add (sz_add (sz_add (sz_add (sz_add (dig_size (by have := wf_s.fin; omega) (by have := wf_s.fin; omega)) (Nat.le_of_eq (rfl : (⟨#[32]⟩ : ByteArray).size = 1))) (dig_size (by have := wf_s.max; omega) (by have := wf_s.max; omega))) (Nat.le_of_eq (rfl : (⟨#[32]⟩ : ByteArray).size = 1))) (dig_size (by omega) (by omega))) (Nat.le_of_eq (rfl : (⟨#[32]⟩ : ByteArray).size = 1))) (dig_size (by omega) (by omega)) (by decide), orc_add (sz_add (sz_add (sz_add (sz_add (sz_add (sz_add (dig_size (by have := wf_s.fin; omega) (by have := wf_s.fin; omega)) (Nat.le_of_eq (rfl : (⟨#[32]⟩ : ByteArray).size = 1))) (dig_size (by have := wf_s.max; omega) (by have := wf_s.max; omega))) (Nat.le_of_eq (rfl : (⟨#[32]⟩ : ByteArray).size = 1))) (dig_size (by omega) (by omega))) (Nat.le_of_eq (rfl : (⟨#[32]⟩ : ByteArray).size = 1))) (dig_size (by omega) (by omega))) (Nat.le_of_eq (rfl : (⟨#[32]⟩ : ByteArray).size = 1)) (by decide), orc_add (sz_add (sz_add (sz_add (sz_add (sz_add (sz_add (sz_add (dig_size (by have := wf_s.fin; omega) (by have := wf_s.fin; omega)) (Nat.le_of_eq (rfl : (⟨#[32]⟩ : ByteArray).size = 1))) (dig_size (by have := wf_s.max; omega) (by have := wf_s.max; omega))) (Nat.le_of_eq (rfl : (⟨#[32]⟩ : ByteArray).size = 1))) (dig_size (by omega) (by omega))) (Nat.le_of_eq (rfl : (⟨#[32]⟩ : ByteArray).size = 1))) (dig_size (by omega) (by omega))) (Nat.le_of_eq (rfl : (⟨#[32]⟩ : ByteArray).size = 1))) (Nat.le_of_eq (rfl : (⟨#[45]⟩ : ByteArray).size = 1)) (by decide), trivial⟩
def showF (s : Sd)  : ByteArray := (bif !(Sd.eq s ({ s with on := true })) then ⟨#[111, 102, 102]⟩ else (bif s.has then (((((((((dig s.fin) ++ (⟨#[32]⟩ : ByteArray)) ++ (dig s.max : ByteArray)) ++ (⟨#[32]⟩ : ByteArray)) ++ (dig s.win : ByteArray)) ++ (⟨#[32]⟩ : ByteArray)) ++ (dig s.scale : ByteArray)) ++ (⟨#[32]⟩ : ByteArray)) ++ (dig s.ack : ByteArray)) else (((((((((dig s.fin) ++ (⟨#[32]⟩ : ByteArray)) ++ (dig s.max : ByteArray)) ++ (⟨#[32]⟩ : ByteArray)) ++ (dig s.win : ByteArray)) ++ (⟨#[32]⟩ : ByteArray)) ++ (dig s.scale : ByteArray)) ++ (⟨#[32]⟩ : ByteArray)) ++ (⟨#[45]⟩ : ByteArray))))
theorem c_show {w : World} (s : Sd)  (wf_s : s.Wf) (hw0 : 0 ≤ s.win) (hw1 : s.win ≤ 1099511627776) (hs0 : -1099511627776 ≤ s.scale) (hs1 : s.scale ≤ 1099511627776) : Calls Try.prog 34 #[s.V] w fun e w' => e = .returned (.string (showF s)) ∧ Below w.heap.size w w' := by
  cases h0 : (!(Sd.eq s ({ s with on := true }))) with
  | true =>
    have e : showF s = ⟨#[111, 102, 102]⟩ := by unfold showF; rw [h0, cond_true]
    rw [e]
    exact c_show_0 s wf_s hw0 hw1 hs0 hs1 h0
  | false =>
    cases h1 : (s.has) with
    | true =>
      have e : showF s = (((((((((dig s.fin) ++ (⟨#[32]⟩ : ByteArray)) ++ (dig s.max : ByteArray)) ++ (⟨#[32]⟩ : ByteArray)) ++ (dig s.win : ByteArray)) ++ (⟨#[32]⟩ : ByteArray)) ++ (dig s.scale : ByteArray)) ++ (⟨#[32]⟩ : ByteArray)) ++ (dig s.ack : ByteArray)) := by unfold showF; rw [h0, cond_false, h1, cond_true]
      rw [e]
      exact c_show_1 s wf_s hw0 hw1 hs0 hs1 h0 h1
    | false =>
      have e : showF s = (((((((((dig s.fin) ++ (⟨#[32]⟩ : ByteArray)) ++ (dig s.max : ByteArray)) ++ (⟨#[32]⟩ : ByteArray)) ++ (dig s.win : ByteArray)) ++ (⟨#[32]⟩ : ByteArray)) ++ (dig s.scale : ByteArray)) ++ (⟨#[32]⟩ : ByteArray)) ++ (⟨#[45]⟩ : ByteArray)) := by unfold showF; rw [h0, cond_false, h1, cond_false]
      rw [e]
      exact c_show_2 s wf_s hw0 hw1 hs0 hs1 h0 h1
def c_rshow_T0 : Bool × List (List Nat × List Nat) := (true, [([], []), ([0], [0]), ([1], [1]), ([2], [2]), ([3], [3]), ([], []), ([5], [5]), ([6], [6]), ([7, 3], [7]), ([4, 8], [4, 8]), ([9], [9]), ([], []), ([11], [11]), ([12, 8], [12]), ([10, 13], [10, 13]), ([14], [14]), ([], []), ([16], [16]), ([17, 13], [17]), ([15, 18], [15, 18]), ([19], [19]), ([20, 18, 0, 1, 2, 3, 4, 5, 6, 7, 8, 9, 10, 11, 12, 13, 14, 15, 16, 17, 18, 19, 20], [20])])
def c_rshow_B0 : List Nat := [0, 1, 3, 7, 15, 0, 32, 96, 239, 511, 1023, 0, 2048, 6639, 16383, 32767, 0, 65536, 211439, 524287, 1048575, 2097151]
set_option maxRecDepth 100000 in
theorem c_rshow_0 {w : World} (s : Sd)  (wf_s : s.Wf) (hw0 : 0 ≤ s.win) (hw1 : s.win ≤ 1099511627776) (hs0 : -1099511627776 ≤ s.scale) (hs1 : s.scale ≤ 1099511627776) (h0 : (!s.on) = true) : Calls Try.prog 35 #[s.V] w fun e w' => e = .returned (.string ⟨#[111, 102, 102]⟩) ∧ Below w.heap.size w w' :=
  calls_of_check rfl Try.func35 1000000 [s.V] [(.cast 6 (.bool !s.on) (.bool true))] (by kernel_rfl) (by kernel_rfl)
    ⟨congrArg Value.bool h0, trivial⟩
set_option maxRecDepth 100000 in
theorem c_rshow_1 {w : World} (s : Sd)  (wf_s : s.Wf) (hw0 : 0 ≤ s.win) (hw1 : s.win ≤ 1099511627776) (hs0 : -1099511627776 ≤ s.scale) (hs1 : s.scale ≤ 1099511627776) (h0 : (!s.on) = false) (h1 : (s.has) = true) : Calls Try.prog 35 #[s.V] w fun e w' => e = .returned (.string (((((((((dig s.fin) ++ (⟨#[32]⟩ : ByteArray)) ++ (dig s.max : ByteArray)) ++ (⟨#[32]⟩ : ByteArray)) ++ (dig s.win : ByteArray)) ++ (⟨#[32]⟩ : ByteArray)) ++ (dig s.scale : ByteArray)) ++ (⟨#[32]⟩ : ByteArray)) ++ (dig s.ack : ByteArray))) ∧ Below w.heap.size w w' :=
  calls_of_check rfl Try.func35 1000000 [s.V] [(.cast 6 (.bool !s.on) (.bool false)),
    (.sched c_rshow_T0 c_rshow_B0 [(1, 1), (1, 2), (1, 5), (1, 6)] [] (.s 0 0 (.s 0 5 (.s 0 11 (.s 0 16 (.s 1 1 (.s 0 2 (.s 1 6 (.s 0 7 (.s 1 12 (.s 1 17 (.s 2 3 (.s 1 4 (.s 2 8 (.s 1 9 (.s 1 10 (.s 2 13 (.s 1 14 (.s 1 15 (.s 2 18 (.s 1 19 (.s 1 20 (.s 0 21 .e))))))))))))))))))))))),
    (.cast 9 (.int .i64 (IntKind.i64.wrap s.fin)) (.int .i64 s.fin)),
    (.cast 14 (.int .i64 (IntKind.i64.wrap s.max)) (.int .i64 s.max)),
    (.call 56 [.int .i64 s.fin] (.string (dig s.fin))),
    (.orc 11 (.binOp .add 9 (.const (.string (dig s.fin))) (.const (.string ⟨#[32]⟩)) 9) (.string ((dig s.fin) ++ (⟨#[32]⟩ : ByteArray)))),
    (.call 56 [.int .i64 s.max] (.string (dig s.max))),
    (.orc 16 (.binOp .add 9 (.const (.string ((dig s.fin) ++ (⟨#[32]⟩ : ByteArray)))) (.const (.string (dig s.max))) 9) (.string (((dig s.fin) ++ (⟨#[32]⟩ : ByteArray)) ++ (dig s.max : ByteArray)))),
    (.orc 17 (.binOp .add 9 (.const (.string (((dig s.fin) ++ (⟨#[32]⟩ : ByteArray)) ++ (dig s.max : ByteArray)))) (.const (.string ⟨#[32]⟩)) 9) (.string ((((dig s.fin) ++ (⟨#[32]⟩ : ByteArray)) ++ (dig s.max : ByteArray)) ++ (⟨#[32]⟩ : ByteArray)))),
    (.call 56 [.int .i64 s.win] (.string (dig s.win))),
    (.orc 21 (.binOp .add 9 (.const (.string ((((dig s.fin) ++ (⟨#[32]⟩ : ByteArray)) ++ (dig s.max : ByteArray)) ++ (⟨#[32]⟩ : ByteArray)))) (.const (.string (dig s.win))) 9) (.string (((((dig s.fin) ++ (⟨#[32]⟩ : ByteArray)) ++ (dig s.max : ByteArray)) ++ (⟨#[32]⟩ : ByteArray)) ++ (dig s.win : ByteArray)))),
    (.orc 22 (.binOp .add 9 (.const (.string (((((dig s.fin) ++ (⟨#[32]⟩ : ByteArray)) ++ (dig s.max : ByteArray)) ++ (⟨#[32]⟩ : ByteArray)) ++ (dig s.win : ByteArray)))) (.const (.string ⟨#[32]⟩)) 9) (.string ((((((dig s.fin) ++ (⟨#[32]⟩ : ByteArray)) ++ (dig s.max : ByteArray)) ++ (⟨#[32]⟩ : ByteArray)) ++ (dig s.win : ByteArray)) ++ (⟨#[32]⟩ : ByteArray)))),
    (.call 56 [.int .i64 s.scale] (.string (dig s.scale))),
    (.orc 26 (.binOp .add 9 (.const (.string ((((((dig s.fin) ++ (⟨#[32]⟩ : ByteArray)) ++ (dig s.max : ByteArray)) ++ (⟨#[32]⟩ : ByteArray)) ++ (dig s.win : ByteArray)) ++ (⟨#[32]⟩ : ByteArray)))) (.const (.string (dig s.scale))) 9) (.string (((((((dig s.fin) ++ (⟨#[32]⟩ : ByteArray)) ++ (dig s.max : ByteArray)) ++ (⟨#[32]⟩ : ByteArray)) ++ (dig s.win : ByteArray)) ++ (⟨#[32]⟩ : ByteArray)) ++ (dig s.scale : ByteArray)))),
    (.orc 27 (.binOp .add 9 (.const (.string (((((((dig s.fin) ++ (⟨#[32]⟩ : ByteArray)) ++ (dig s.max : ByteArray)) ++ (⟨#[32]⟩ : ByteArray)) ++ (dig s.win : ByteArray)) ++ (⟨#[32]⟩ : ByteArray)) ++ (dig s.scale : ByteArray)))) (.const (.string ⟨#[32]⟩)) 9) (.string ((((((((dig s.fin) ++ (⟨#[32]⟩ : ByteArray)) ++ (dig s.max : ByteArray)) ++ (⟨#[32]⟩ : ByteArray)) ++ (dig s.win : ByteArray)) ++ (⟨#[32]⟩ : ByteArray)) ++ (dig s.scale : ByteArray)) ++ (⟨#[32]⟩ : ByteArray)))),
    (.cast 29 (.bool s.has) (.bool true)),
    (.cast 33 (.int .i64 (IntKind.i64.wrap s.ack)) (.int .i64 s.ack)),
    (.call 56 [.int .i64 s.ack] (.string (dig s.ack))),
    (.orc 35 (.binOp .add 9 (.const (.string ((((((((dig s.fin) ++ (⟨#[32]⟩ : ByteArray)) ++ (dig s.max : ByteArray)) ++ (⟨#[32]⟩ : ByteArray)) ++ (dig s.win : ByteArray)) ++ (⟨#[32]⟩ : ByteArray)) ++ (dig s.scale : ByteArray)) ++ (⟨#[32]⟩ : ByteArray)))) (.const (.string (dig s.ack))) 9) (.string (((((((((dig s.fin) ++ (⟨#[32]⟩ : ByteArray)) ++ (dig s.max : ByteArray)) ++ (⟨#[32]⟩ : ByteArray)) ++ (dig s.win : ByteArray)) ++ (⟨#[32]⟩ : ByteArray)) ++ (dig s.scale : ByteArray)) ++ (⟨#[32]⟩ : ByteArray)) ++ (dig s.ack : ByteArray))))] (by kernel_rfl) (by kernel_rfl)
    ⟨congrArg Value.bool h0, trivial, congrArg (Value.int .i64) (wr64 (by have := wf_s.fin; omega)), congrArg (Value.int .i64) (wr64 (by have := wf_s.max; omega)), ⟨ent Try.func56 rfl rfl, fun w' hw => c_digits (by have := wf_s.fin; omega) (by have := wf_s.fin; omega)⟩, orc_add (dig_size (by have := wf_s.fin; omega) (by have := wf_s.fin; omega)) (Nat.le_of_eq (rfl : (⟨#[32]⟩ : ByteArray).size = 1)) (by decide), ⟨ent Try.func56 rfl rfl, fun w' hw => c_digits (by have := wf_s.max; omega) (by have := wf_s.max; omega)⟩, orc_add (sz_add (dig_size (by have := wf_s.fin; omega) (by have := wf_s.fin; omega)) (Nat.le_of_eq (rfl : (⟨#[32]⟩ : ByteArray).size = 1))) (dig_size (by have := wf_s.max; omega) (by have := wf_s.max; omega)) (by decide), orc_add (sz_add (sz_add (dig_size (by have := wf_s.fin; omega) (by have := wf_s.fin; omega)) (Nat.le_of_eq (rfl : (⟨#[32]⟩ : ByteArray).size = 1))) (dig_size (by have := wf_s.max; omega) (by have := wf_s.max; omega))) (Nat.le_of_eq (rfl : (⟨#[32]⟩ : ByteArray).size = 1)) (by decide), ⟨ent Try.func56 rfl rfl, fun w' hw => c_digits (by omega) (by omega)⟩, orc_add (sz_add (sz_add (sz_add (dig_size (by have := wf_s.fin; omega) (by have := wf_s.fin; omega)) (Nat.le_of_eq (rfl : (⟨#[32]⟩ : ByteArray).size = 1))) (dig_size (by have := wf_s.max; omega) (by have := wf_s.max; omega))) (Nat.le_of_eq (rfl : (⟨#[32]⟩ : ByteArray).size = 1))) (dig_size (by omega) (by omega)) (by decide), orc_add (sz_add (sz_add (sz_add (sz_add (dig_size (by have := wf_s.fin; omega) (by have := wf_s.fin; omega)) (Nat.le_of_eq (rfl : (⟨#[32]⟩ : ByteArray).size = 1))) (dig_size (by have := wf_s.max; omega) (by have := wf_s.max; omega))) (Nat.le_of_eq (rfl : (⟨#[32]⟩ : ByteArray).size = 1))) (dig_size (by omega) (by omega))) (Nat.le_of_eq (rfl : (⟨#[32]⟩ : ByteArray).size = 1)) (by decide), ⟨ent Try.func56 rfl rfl, fun w' hw => c_digits (by omega) (by omega)⟩, orc_add (sz_add (sz_add (sz_add (sz_add (sz_add (dig_size (by have := wf_s.fin; omega) (by have := wf_s.fin; omega)) (Nat.le_of_eq (rfl : (⟨#[32]⟩ : ByteArray).size = 1))) (dig_size (by have := wf_s.max; omega) (by have := wf_s.max; omega))) (Nat.le_of_eq (rfl : (⟨#[32]⟩ : ByteArray).size = 1))) (dig_size (by omega) (by omega))) (Nat.le_of_eq (rfl : (⟨#[32]⟩ : ByteArray).size = 1))) (dig_size (by omega) (by omega)) (by decide), orc_add (sz_add (sz_add (sz_add (sz_add (sz_add (sz_add (dig_size (by have := wf_s.fin; omega) (by have := wf_s.fin; omega)) (Nat.le_of_eq (rfl : (⟨#[32]⟩ : ByteArray).size = 1))) (dig_size (by have := wf_s.max; omega) (by have := wf_s.max; omega))) (Nat.le_of_eq (rfl : (⟨#[32]⟩ : ByteArray).size = 1))) (dig_size (by omega) (by omega))) (Nat.le_of_eq (rfl : (⟨#[32]⟩ : ByteArray).size = 1))) (dig_size (by omega) (by omega))) (Nat.le_of_eq (rfl : (⟨#[32]⟩ : ByteArray).size = 1)) (by decide), congrArg Value.bool h1, congrArg (Value.int .i64) (wr64 (by have := wf_s.ack; omega)), ⟨ent Try.func56 rfl rfl, fun w' hw => c_digits (by have := wf_s.ack; omega) (by have := wf_s.ack; omega)⟩, orc_add (sz_add (sz_add (sz_add (sz_add (sz_add (sz_add (sz_add (dig_size (by have := wf_s.fin; omega) (by have := wf_s.fin; omega)) (Nat.le_of_eq (rfl : (⟨#[32]⟩ : ByteArray).size = 1))) (dig_size (by have := wf_s.max; omega) (by have := wf_s.max; omega))) (Nat.le_of_eq (rfl : (⟨#[32]⟩ : ByteArray).size = 1))) (dig_size (by omega) (by omega))) (Nat.le_of_eq (rfl : (⟨#[32]⟩ : ByteArray).size = 1))) (dig_size (by omega) (by omega))) (Nat.le_of_eq (rfl : (⟨#[32]⟩ : ByteArray).size = 1))) (dig_size (by have := wf_s.ack; omega) (by have := wf_s.ack; omega)) (by decide), trivial⟩
set_option maxRecDepth 100000 in
theorem c_rshow_2 {w : World} (s : Sd)  (wf_s : s.Wf) (hw0 : 0 ≤ s.win) (hw1 : s.win ≤ 1099511627776) (hs0 : -1099511627776 ≤ s.scale) (hs1 : s.scale ≤ 1099511627776) (h0 : (!s.on) = false) (h1 : (s.has) = false) : Calls Try.prog 35 #[s.V] w fun e w' => e = .returned (.string (((((((((dig s.fin) ++ (⟨#[32]⟩ : ByteArray)) ++ (dig s.max : ByteArray)) ++ (⟨#[32]⟩ : ByteArray)) ++ (dig s.win : ByteArray)) ++ (⟨#[32]⟩ : ByteArray)) ++ (dig s.scale : ByteArray)) ++ (⟨#[32]⟩ : ByteArray)) ++ (⟨#[45]⟩ : ByteArray))) ∧ Below w.heap.size w w' :=
  calls_of_check rfl Try.func35 1000000 [s.V] [(.cast 6 (.bool !s.on) (.bool false)),
    (.sched c_rshow_T0 c_rshow_B0 [(1, 1), (1, 2), (1, 5), (1, 6)] [] (.s 0 0 (.s 0 5 (.s 0 11 (.s 0 16 (.s 1 1 (.s 0 2 (.s 1 6 (.s 0 7 (.s 1 12 (.s 1 17 (.s 2 3 (.s 1 4 (.s 2 8 (.s 1 9 (.s 1 10 (.s 2 13 (.s 1 14 (.s 1 15 (.s 2 18 (.s 1 19 (.s 1 20 (.s 0 21 .e))))))))))))))))))))))),
    (.cast 9 (.int .i64 (IntKind.i64.wrap s.fin)) (.int .i64 s.fin)),
    (.cast 14 (.int .i64 (IntKind.i64.wrap s.max)) (.int .i64 s.max)),
    (.call 56 [.int .i64 s.fin] (.string (dig s.fin))),
    (.orc 11 (.binOp .add 9 (.const (.string (dig s.fin))) (.const (.string ⟨#[32]⟩)) 9) (.string ((dig s.fin) ++ (⟨#[32]⟩ : ByteArray)))),
    (.call 56 [.int .i64 s.max] (.string (dig s.max))),
    (.orc 16 (.binOp .add 9 (.const (.string ((dig s.fin) ++ (⟨#[32]⟩ : ByteArray)))) (.const (.string (dig s.max))) 9) (.string (((dig s.fin) ++ (⟨#[32]⟩ : ByteArray)) ++ (dig s.max : ByteArray)))),
    (.orc 17 (.binOp .add 9 (.const (.string (((dig s.fin) ++ (⟨#[32]⟩ : ByteArray)) ++ (dig s.max : ByteArray)))) (.const (.string ⟨#[32]⟩)) 9) (.string ((((dig s.fin) ++ (⟨#[32]⟩ : ByteArray)) ++ (dig s.max : ByteArray)) ++ (⟨#[32]⟩ : ByteArray)))),
    (.call 56 [.int .i64 s.win] (.string (dig s.win))),
    (.orc 21 (.binOp .add 9 (.const (.string ((((dig s.fin) ++ (⟨#[32]⟩ : ByteArray)) ++ (dig s.max : ByteArray)) ++ (⟨#[32]⟩ : ByteArray)))) (.const (.string (dig s.win))) 9) (.string (((((dig s.fin) ++ (⟨#[32]⟩ : ByteArray)) ++ (dig s.max : ByteArray)) ++ (⟨#[32]⟩ : ByteArray)) ++ (dig s.win : ByteArray)))),
    (.orc 22 (.binOp .add 9 (.const (.string (((((dig s.fin) ++ (⟨#[32]⟩ : ByteArray)) ++ (dig s.max : ByteArray)) ++ (⟨#[32]⟩ : ByteArray)) ++ (dig s.win : ByteArray)))) (.const (.string ⟨#[32]⟩)) 9) (.string ((((((dig s.fin) ++ (⟨#[32]⟩ : ByteArray)) ++ (dig s.max : ByteArray)) ++ (⟨#[32]⟩ : ByteArray)) ++ (dig s.win : ByteArray)) ++ (⟨#[32]⟩ : ByteArray)))),
    (.call 56 [.int .i64 s.scale] (.string (dig s.scale))),
    (.orc 26 (.binOp .add 9 (.const (.string ((((((dig s.fin) ++ (⟨#[32]⟩ : ByteArray)) ++ (dig s.max : ByteArray)) ++ (⟨#[32]⟩ : ByteArray)) ++ (dig s.win : ByteArray)) ++ (⟨#[32]⟩ : ByteArray)))) (.const (.string (dig s.scale))) 9) (.string (((((((dig s.fin) ++ (⟨#[32]⟩ : ByteArray)) ++ (dig s.max : ByteArray)) ++ (⟨#[32]⟩ : ByteArray)) ++ (dig s.win : ByteArray)) ++ (⟨#[32]⟩ : ByteArray)) ++ (dig s.scale : ByteArray)))),
    (.orc 27 (.binOp .add 9 (.const (.string (((((((dig s.fin) ++ (⟨#[32]⟩ : ByteArray)) ++ (dig s.max : ByteArray)) ++ (⟨#[32]⟩ : ByteArray)) ++ (dig s.win : ByteArray)) ++ (⟨#[32]⟩ : ByteArray)) ++ (dig s.scale : ByteArray)))) (.const (.string ⟨#[32]⟩)) 9) (.string ((((((((dig s.fin) ++ (⟨#[32]⟩ : ByteArray)) ++ (dig s.max : ByteArray)) ++ (⟨#[32]⟩ : ByteArray)) ++ (dig s.win : ByteArray)) ++ (⟨#[32]⟩ : ByteArray)) ++ (dig s.scale : ByteArray)) ++ (⟨#[32]⟩ : ByteArray)))),
    (.cast 29 (.bool s.has) (.bool false)),
    (.orc 37 (.binOp .add 9 (.const (.string ((((((((dig s.fin) ++ (⟨#[32]⟩ : ByteArray)) ++ (dig s.max : ByteArray)) ++ (⟨#[32]⟩ : ByteArray)) ++ (dig s.win : ByteArray)) ++ (⟨#[32]⟩ : ByteArray)) ++ (dig s.scale : ByteArray)) ++ (⟨#[32]⟩ : ByteArray)))) (.const (.string ⟨#[45]⟩)) 9) (.string (((((((((dig s.fin) ++ (⟨#[32]⟩ : ByteArray)) ++ (dig s.max : ByteArray)) ++ (⟨#[32]⟩ : ByteArray)) ++ (dig s.win : ByteArray)) ++ (⟨#[32]⟩ : ByteArray)) ++ (dig s.scale : ByteArray)) ++ (⟨#[32]⟩ : ByteArray)) ++ (⟨#[45]⟩ : ByteArray))))] (by kernel_rfl) (by kernel_rfl)
    ⟨congrArg Value.bool h0, trivial, congrArg (Value.int .i64) (wr64 (by have := wf_s.fin; omega)), congrArg (Value.int .i64) (wr64 (by have := wf_s.max; omega)), ⟨ent Try.func56 rfl rfl, fun w' hw => c_digits (by have := wf_s.fin; omega) (by have := wf_s.fin; omega)⟩, orc_add (dig_size (by have := wf_s.fin; omega) (by have := wf_s.fin; omega)) (Nat.le_of_eq (rfl : (⟨#[32]⟩ : ByteArray).size = 1)) (by decide), ⟨ent Try.func56 rfl rfl, fun w' hw => c_digits (by have := wf_s.max; omega) (by have := wf_s.max; omega)⟩, orc_add (sz_add (dig_size (by have := wf_s.fin; omega) (by have := wf_s.fin; omega)) (Nat.le_of_eq (rfl : (⟨#[32]⟩ : ByteArray).size = 1))) (dig_size (by have := wf_s.max; omega) (by have := wf_s.max; omega)) (by decide), orc_add (sz_add (sz_add (dig_size (by have := wf_s.fin; omega) (by have := wf_s.fin; omega)) (Nat.le_of_eq (rfl : (⟨#[32]⟩ : ByteArray).size = 1))) (dig_size (by have := wf_s.max; omega) (by have := wf_s.max; omega))) (Nat.le_of_eq (rfl : (⟨#[32]⟩ : ByteArray).size = 1)) (by decide), ⟨ent Try.func56 rfl rfl, fun w' hw => c_digits (by omega) (by omega)⟩, orc_add (sz_add (sz_add (sz_add (dig_size (by have := wf_s.fin; omega) (by have := wf_s.fin; omega)) (Nat.le_of_eq (rfl : (⟨#[32]⟩ : ByteArray).size = 1))) (dig_size (by have := wf_s.max; omega) (by have := wf_s.max; omega))) (Nat.le_of_eq (rfl : (⟨#[32]⟩ : ByteArray).size = 1))) (dig_size (by omega) (by omega)) (by decide), orc_add (sz_add (sz_add (sz_add (sz_add (dig_size (by have := wf_s.fin; omega) (by have := wf_s.fin; omega)) (Nat.le_of_eq (rfl : (⟨#[32]⟩ : ByteArray).size = 1))) (dig_size (by have := wf_s.max; omega) (by have := wf_s.max; omega))) (Nat.le_of_eq (rfl : (⟨#[32]⟩ : ByteArray).size = 1))) (dig_size (by omega) (by omega))) (Nat.le_of_eq (rfl : (⟨#[32]⟩ : ByteArray).size = 1)) (by decide), ⟨ent Try.func56 rfl rfl, fun w' hw => c_digits (by omega) (by omega)⟩, orc_add (sz_add (sz_add (sz_add (sz_add (sz_add (dig_size (by have := wf_s.fin; omega) (by have := wf_s.fin; omega)) (Nat.le_of_eq (rfl : (⟨#[32]⟩ : ByteArray).size = 1))) (dig_size (by have := wf_s.max; omega) (by have := wf_s.max; omega))) (Nat.le_of_eq (rfl : (⟨#[32]⟩ : ByteArray).size = 1))) (dig_size (by omega) (by omega))) (Nat.le_of_eq (rfl : (⟨#[32]⟩ : ByteArray).size = 1))) (dig_size (by omega) (by omega)) (by decide), orc_add (sz_add (sz_add (sz_add (sz_add (sz_add (sz_add (dig_size (by have := wf_s.fin; omega) (by have := wf_s.fin; omega)) (Nat.le_of_eq (rfl : (⟨#[32]⟩ : ByteArray).size = 1))) (dig_size (by have := wf_s.max; omega) (by have := wf_s.max; omega))) (Nat.le_of_eq (rfl : (⟨#[32]⟩ : ByteArray).size = 1))) (dig_size (by omega) (by omega))) (Nat.le_of_eq (rfl : (⟨#[32]⟩ : ByteArray).size = 1))) (dig_size (by omega) (by omega))) (Nat.le_of_eq (rfl : (⟨#[32]⟩ : ByteArray).size = 1)) (by decide), congrArg Value.bool h1, orc_add (sz_add (sz_add (sz_add (sz_add (sz_add (sz_add (sz_add (dig_size (by have := wf_s.fin; omega) (by have := wf_s.fin; omega)) (Nat.le_of_eq (rfl : (⟨#[32]⟩ : ByteArray).size = 1))) (dig_size (by have := wf_s.max; omega) (by have := wf_s.max; omega))) (Nat.le_of_eq (rfl : (⟨#[32]⟩ : ByteArray).size = 1))) (dig_size (by omega) (by omega))) (Nat.le_of_eq (rfl : (⟨#[32]⟩ : ByteArray).size = 1))) (dig_size (by omega) (by omega))) (Nat.le_of_eq (rfl : (⟨#[32]⟩ : ByteArray).size = 1))) (Nat.le_of_eq (rfl : (⟨#[45]⟩ : ByteArray).size = 1)) (by decide), trivial⟩
def rshowF (s : Sd)  : ByteArray := (bif !s.on then ⟨#[111, 102, 102]⟩ else (bif s.has then (((((((((dig s.fin) ++ (⟨#[32]⟩ : ByteArray)) ++ (dig s.max : ByteArray)) ++ (⟨#[32]⟩ : ByteArray)) ++ (dig s.win : ByteArray)) ++ (⟨#[32]⟩ : ByteArray)) ++ (dig s.scale : ByteArray)) ++ (⟨#[32]⟩ : ByteArray)) ++ (dig s.ack : ByteArray)) else (((((((((dig s.fin) ++ (⟨#[32]⟩ : ByteArray)) ++ (dig s.max : ByteArray)) ++ (⟨#[32]⟩ : ByteArray)) ++ (dig s.win : ByteArray)) ++ (⟨#[32]⟩ : ByteArray)) ++ (dig s.scale : ByteArray)) ++ (⟨#[32]⟩ : ByteArray)) ++ (⟨#[45]⟩ : ByteArray))))
theorem c_rshow {w : World} (s : Sd)  (wf_s : s.Wf) (hw0 : 0 ≤ s.win) (hw1 : s.win ≤ 1099511627776) (hs0 : -1099511627776 ≤ s.scale) (hs1 : s.scale ≤ 1099511627776) : Calls Try.prog 35 #[s.V] w fun e w' => e = .returned (.string (rshowF s)) ∧ Below w.heap.size w w' := by
  cases h0 : (!s.on) with
  | true =>
    have e : rshowF s = ⟨#[111, 102, 102]⟩ := by unfold rshowF; rw [h0, cond_true]
    rw [e]
    exact c_rshow_0 s wf_s hw0 hw1 hs0 hs1 h0
  | false =>
    cases h1 : (s.has) with
    | true =>
      have e : rshowF s = (((((((((dig s.fin) ++ (⟨#[32]⟩ : ByteArray)) ++ (dig s.max : ByteArray)) ++ (⟨#[32]⟩ : ByteArray)) ++ (dig s.win : ByteArray)) ++ (⟨#[32]⟩ : ByteArray)) ++ (dig s.scale : ByteArray)) ++ (⟨#[32]⟩ : ByteArray)) ++ (dig s.ack : ByteArray)) := by unfold rshowF; rw [h0, cond_false, h1, cond_true]
      rw [e]
      exact c_rshow_1 s wf_s hw0 hw1 hs0 hs1 h0 h1
    | false =>
      have e : rshowF s = (((((((((dig s.fin) ++ (⟨#[32]⟩ : ByteArray)) ++ (dig s.max : ByteArray)) ++ (⟨#[32]⟩ : ByteArray)) ++ (dig s.win : ByteArray)) ++ (⟨#[32]⟩ : ByteArray)) ++ (dig s.scale : ByteArray)) ++ (⟨#[32]⟩ : ByteArray)) ++ (⟨#[45]⟩ : ByteArray)) := by unfold rshowF; rw [h0, cond_false, h1, cond_false]
      rw [e]
      exact c_rshow_2 s wf_s hw0 hw1 hs0 hs1 h0 h1
set_option maxRecDepth 100000 in
theorem c_plain17_0 {w : World} (s : Sd)  : Calls Try.prog 29 #[s.V] w fun e w' => e = .returned (s.V) ∧ Below w.heap.size w w' :=
  calls_of_check rfl Try.func29 1000000 [s.V] [] (by kernel_rfl) (by kernel_rfl)
    trivial
def plain17F (s : Sd)  : Sd := s
theorem c_plain17 {w : World} (s : Sd)  : Calls Try.prog 29 #[s.V] w fun e w' => e = .returned ((plain17F s).V) ∧ Below w.heap.size w w' := by
  exact c_plain17_0 s
set_option maxRecDepth 100000 in
theorem c_plain18_0 {w : World} (s : Sd)  : Calls Try.prog 16 #[s.V] w fun e w' => e = .returned (s.V) ∧ Below w.heap.size w w' :=
  calls_of_check rfl Try.func16 1000000 [s.V] [] (by kernel_rfl) (by kernel_rfl)
    trivial
def plain18F (s : Sd)  : Sd := s
theorem c_plain18 {w : World} (s : Sd)  : Calls Try.prog 16 #[s.V] w fun e w' => e = .returned ((plain18F s).V) ∧ Below w.heap.size w w' := by
  exact c_plain18_0 s
set_option maxRecDepth 100000 in
theorem c_back18_0 {w : World} (s : Sd)  : Calls Try.prog 22 #[s.V] w fun e w' => e = .returned (s.V) ∧ Below w.heap.size w w' :=
  calls_of_check rfl Try.func22 1000000 [s.V] [] (by kernel_rfl) (by kernel_rfl)
    trivial
def back18F (s : Sd)  : Sd := s
theorem c_back18 {w : World} (s : Sd)  : Calls Try.prog 22 #[s.V] w fun e w' => e = .returned ((back18F s).V) ∧ Below w.heap.size w w' := by
  exact c_back18_0 s
end Go.Proofs.Ytfgpcaadgfgkcaa.Win
