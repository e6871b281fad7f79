/- Contracts of accept and of its reference. No conditions but those that each theorem names. -/
import Derived.Test.YtfgpcaadgfgkcaaSide
import Derived.Test.YtfgpcaadgfgkcaaWinLem
namespace Go.Proofs.Ytfgpcaadgfgkcaa.Acc
open Go.RowKit Go.Proofs.Ytfgpcaadgfgkcaa.PAll Go.Proofs.YtfgpcaadgfgkcaaW.PrintWords Go.Proofs.YtfgpcaadgfgkcaaW.PrintLast Go.Proofs.Ytfgpcaadgfgkcaa.SeqnLem Go.Proofs.Ytfgpcaadgfgkcaa.Edge Go.Proofs.Ytfgpcaadgfgkcaa.Exec Go.Proofs.Ytfgpcaadgfgkcaa.World_ Go.Proofs.Ytfgpcaadgfgkcaa.Side Go.Proofs.Ytfgpcaadgfgkcaa.Dig Go.Proofs.Ytfgpcaadgfgkcaa.Win Go.Proofs.Ytfgpcaadgfgkcaa.WinLem
set_option linter.unusedVariables false
set_option linter.unusedSimpArgs false
def Sd.cs (s : Sd) : List C := [.v (.bool s.on), .v (.int .u32 s.fin), .v (.int .u32 s.max), .v (.int .u32 s.ack), .v (.bool s.has), .v (.int .i64 s.win), .v (.int .i64 s.scale)]
def Sg.cs (g : Sg) (A : Option Addr) (c : Nat) : List C := [.v (.int .i64 g.src), .v (.int .i64 g.dst), .v (.int .u32 g.seq), .v (.int .u32 g.ack), .v (.int .i64 g.flags), .v (.int .i64 g.win), .v (.int .i64 g.urg), .v (.int .i64 g.mss), .v (.int .i64 g.scale), .v (.bool g.sack), .v (.slice A g.blocks.length c), .v (.bool g.timed), .v (.int .u32 g.time), .v (.int .u32 g.echo), .v (.string g.data)]
def nn : Nat → Hp → Hp
  | 0, r => r
  | n + 1, r => none :: nn n r
set_option maxRecDepth 100000 in
theorem c_tells_0 {w : World} (r : Sd) (g : Sg)  {A : Option Addr} {c : Nat} (h0 : (r.on) = true) : Calls Try.prog 66 #[r.V, g.V A c] w fun e w' => e = .returned (.bool (decide ((Go.bits .and .i64 g.flags 16) > 0))) ∧ Below w.heap.size w w' :=
  calls_of_check rfl Try.func66 1000000 [r.V, g.V A c] [(.cast 6 (.bool r.on) (.bool true))] (by kernel_rfl) (by kernel_rfl)
    (by exact ⟨congrArg Value.bool h0, trivial⟩)
set_option maxRecDepth 100000 in
theorem c_tells_1 {w : World} (r : Sd) (g : Sg)  {A : Option Addr} {c : Nat} (h0 : (r.on) = false) : Calls Try.prog 66 #[r.V, g.V A c] w fun e w' => e = .returned (.bool false) ∧ Below w.heap.size w w' :=
  calls_of_check rfl Try.func66 1000000 [r.V, g.V A c] [(.cast 6 (.bool r.on) (.bool false))] (by kernel_rfl) (by kernel_rfl)
    (by exact ⟨congrArg Value.bool h0, trivial⟩)
def tellsF (r : Sd) (g : Sg)  : Bool := (bif r.on then (decide ((Go.bits .and .i64 g.flags 16) > 0)) else false)
theorem c_tells {w : World} (r : Sd) (g : Sg)  {A : Option Addr} {c : Nat} : Calls Try.prog 66 #[r.V, g.V A c] w fun e w' => e = .returned (.bool (tellsF r g)) ∧ Below w.heap.size w w' := by
  cases h0 : (r.on) with
  | true =>
    have e : tellsF r g = (decide ((Go.bits .and .i64 g.flags 16) > 0)) := by unfold tellsF; rw [h0, cond_true]
    rw [e]
    exact c_tells_0 r g h0
  | false =>
    have e : tellsF r g = false := by unfold tellsF; rw [h0, cond_false]
    rw [e]
    exact c_tells_1 r g h0
def c_far_T0 : Bool × List (List Nat × List Nat) := (true, [([], []), ([0], [0]), ([1], [1]), ([2], [2]), ([3, 2], [2, 3]), ([2, 4], [2, 4]), ([5, 2], [5]), ([6], [6]), ([7, 6], [6, 7]), ([6], [6]), ([9, 6, 6], [6, 9]), ([8, 10, 10, 6], [6, 8, 10]), ([11, 6], [6, 11]), ([6, 12], [6, 12]), ([13, 11, 0, 1, 2, 3, 4, 5, 6, 7, 8, 9, 10, 11, 12, 13], [13])])
def c_far_B0 : List Nat := [0, 1, 3, 7, 15, 31, 63, 127, 255, 127, 639, 2047, 4095, 8191, 16383]
set_option maxRecDepth 100000 in
theorem c_far_0 {w : World} (s : Sd) (r : Sd) (g : Sg)  {A : Option Addr} {c : Nat} (ok : g.Ok A c w) (hd : g.data.size ≤ 1000000) (h0 : (s.on) = true) (h1 : (r.on) = true) : Calls Try.prog 57 #[s.V, r.V, g.V A c] w fun e w' => e = .returned (.bool (decide ((G s.max (EndS g)) > 1))) ∧ Below w.heap.size w w' :=
  calls_of_check rfl Try.func57 1000000 [s.V, r.V, g.V A c] [(.sched c_far_T0 c_far_B0 [(3, 0), (3, 2), (4, 0), (5, 0), (5, 1), (5, 2), (5, 3), (5, 4), (5, 5), (5, 6), (5, 7), (5, 8), (5, 9), (5, 10), (5, 11), (5, 12), (5, 13), (5, 14)] [] (.s 0 0 (.s 1 1 (.s 0 2 (.s 0 3 (.s 1 4 (.s 0 5 (.s 0 6 (.s 0 7 (.s 1 8 (.s 1 9 (.s 2 10 (.s 2 11 (.s 0 12 (.s 0 13 (.s 0 14 .e)))))))))))))))),
    (.cast 8 (.bool s.on) (.bool true)),
    (.cast 11 (.bool r.on) (.bool true)),
    (.call 48 [g.V A c] (.int .u32 (EndS g))),
    (.call 65 [.int .u32 s.max, .int .u32 (EndS g)] (.int .i64 (G s.max (EndS g))))] (by kernel_rfl) (by kernel_rfl)
    (by exact ⟨trivial, congrArg Value.bool h0, congrArg Value.bool h1, ⟨ent Try.func48 rfl rfl, fun w' hw => c_end (s := g) (A := A) (c := c) (ok.keep hw) hd⟩, ⟨ent Try.func65 rfl rfl, fun w' hw => c_gap s.max (EndS g)⟩, trivial⟩)
set_option maxRecDepth 100000 in
theorem c_far_1 {w : World} (s : Sd) (r : Sd) (g : Sg)  {A : Option Addr} {c : Nat} (ok : g.Ok A c w) (hd : g.data.size ≤ 1000000) (h0 : (s.on) = true) (h1 : (r.on) = false) : Calls Try.prog 57 #[s.V, r.V, g.V A c] w fun e w' => e = .returned (.bool false) ∧ Below w.heap.size w w' :=
  calls_of_check rfl Try.func57 1000000 [s.V, r.V, g.V A c] [(.sched c_far_T0 c_far_B0 [(3, 0), (4, 0)] [] (.s 0 0 (.s 1 1 (.s 0 2 (.s 0 3 (.s 1 4 (.s 0 5 (.s 0 6 (.s 0 7 (.s 0 8 (.s 0 9 (.s 0 10 (.s 0 11 (.s 0 12 (.s 0 13 (.s 0 14 .e)))))))))))))))),
    (.cast 8 (.bool s.on) (.bool true)),
    (.cast 11 (.bool r.on) (.bool false))] (by kernel_rfl) (by kernel_rfl)
    (by exact ⟨trivial, congrArg Value.bool h0, congrArg Value.bool h1, trivial⟩)
set_option maxRecDepth 100000 in
theorem c_far_2 {w : World} (s : Sd) (r : Sd) (g : Sg)  {A : Option Addr} {c : Nat} (ok : g.Ok A c w) (hd : g.data.size ≤ 1000000) (h0 : (s.on) = false) : Calls Try.prog 57 #[s.V, r.V, g.V A c] w fun e w' => e = .returned (.bool false) ∧ Below w.heap.size w w' :=
  calls_of_check rfl Try.func57 1000000 [s.V, r.V, g.V A c] [(.sched c_far_T0 c_far_B0 [(3, 0)] [] (.s 0 0 (.s 1 1 (.s 0 2 (.s 0 3 (.s 0 4 (.s 0 5 (.s 0 6 (.s 0 7 (.s 0 8 (.s 0 9 (.s 0 10 (.s 0 11 (.s 0 12 (.s 0 13 (.s 0 14 .e)))))))))))))))),
    (.cast 8 (.bool s.on) (.bool false))] (by kernel_rfl) (by kernel_rfl)
    (by exact ⟨trivial, congrArg Value.bool h0, trivial⟩)
def farF (s : Sd) (r : Sd) (g : Sg)  : Bool := (bif s.on then (bif r.on then (decide ((G s.max (EndS g)) > 1)) else false) else false)
theorem c_far {w : World} (s : Sd) (r : Sd) (g : Sg)  {A : Option Addr} {c : Nat} (ok : g.Ok A c w) (hd : g.data.size ≤ 1000000) : Calls Try.prog 57 #[s.V, r.V, g.V A c] w fun e w' => e = .returned (.bool (farF s r g)) ∧ Below w.heap.size w w' := by
  cases h0 : (s.on) with
  | true =>
    cases h1 : (r.on) with
    | true =>
      have e : farF s r g = (decide ((G s.max (EndS g)) > 1)) := by unfold farF; rw [h0, cond_true, h1, cond_true]
      rw [e]
      exact c_far_0 s r g ok hd h0 h1
    | false =>
      have e : farF s r g = false := by unfold farF; rw [h0, cond_true, h1, cond_false]
      rw [e]
      exact c_far_1 s r g ok hd h0 h1
  | false =>
    have e : farF s r g = false := by unfold farF; rw [h0, cond_false]
    rw [e]
    exact c_far_2 s r g ok hd h0
def c_old_T0 : Bool × List (List Nat × List Nat) := (true, [([], []), ([0], [0]), ([1], [1]), ([2], [2]), ([3, 2, 2], [2, 3]), ([2], [2]), ([5, 2], [2, 5]), ([4, 6, 4, 2], [2, 4, 6]), ([2], [2]), ([8, 2], [2, 8]), ([9, 2], [2, 9]), ([7, 10, 2], [2, 7, 10]), ([2, 11], [2, 11]), ([12, 7, 0, 1, 2, 3, 4, 5, 6, 7, 8, 9, 10, 11, 12], [12])])
def c_old_B0 : List Nat := [0, 1, 3, 7, 15, 7, 39, 127, 7, 263, 775, 2047, 4095, 8191]
set_option maxRecDepth 100000 in
theorem c_old_0 {w : World} (s : Sd) (r : Sd) (g : Sg)  {A : Option Addr} {c : Nat} (ok : g.Ok A c w) (hd : g.data.size ≤ 1000000) (h0 : (s.on) = true) : Calls Try.prog 58 #[s.V, r.V, g.V A c] w fun e w' => e = .returned (.bool (decide ((G (EndS g) s.fin) > (IntKind.i64.wrap (r.win + 1))))) ∧ Below w.heap.size w w' :=
  calls_of_check rfl Try.func58 1000000 [s.V, r.V, g.V A c] [(.sched c_old_T0 c_old_B0 [(3, 0), (3, 1), (4, 5), (5, 0), (5, 1), (5, 2), (5, 3), (5, 4), (5, 5), (5, 6), (5, 7), (5, 8), (5, 9), (5, 10), (5, 11), (5, 12), (5, 13), (5, 14)] [] (.s 0 0 (.s 1 1 (.s 0 2 (.s 0 5 (.s 0 8 (.s 1 3 (.s 1 6 (.s 1 9 (.s 0 10 (.s 2 4 (.s 2 7 (.s 0 11 (.s 0 12 (.s 0 13 .e))))))))))))))),
    (.cast 8 (.bool s.on) (.bool true)),
    (.call 48 [g.V A c] (.int .u32 (EndS g))),
    (.call 65 [.int .u32 (EndS g), .int .u32 s.fin] (.int .i64 (G (EndS g) s.fin)))] (by kernel_rfl) (by kernel_rfl)
    (by exact ⟨trivial, congrArg Value.bool h0, ⟨ent Try.func48 rfl rfl, fun w' hw => c_end (s := g) (A := A) (c := c) (ok.keep hw) hd⟩, ⟨ent Try.func65 rfl rfl, fun w' hw => c_gap (EndS g) s.fin⟩, trivial⟩)
set_option maxRecDepth 100000 in
theorem c_old_1 {w : World} (s : Sd) (r : Sd) (g : Sg)  {A : Option Addr} {c : Nat} (ok : g.Ok A c w) (hd : g.data.size ≤ 1000000) (h0 : (s.on) = false) : Calls Try.prog 58 #[s.V, r.V, g.V A c] w fun e w' => e = .returned (.bool false) ∧ Below w.heap.size w w' :=
  calls_of_check rfl Try.func58 1000000 [s.V, r.V, g.V A c] [(.sched c_old_T0 c_old_B0 [(3, 0)] [] (.s 0 0 (.s 1 1 (.s 0 2 (.s 0 3 (.s 0 4 (.s 0 5 (.s 0 6 (.s 0 7 (.s 0 8 (.s 0 9 (.s 0 10 (.s 0 11 (.s 0 12 (.s 0 13 .e))))))))))))))),
    (.cast 8 (.bool s.on) (.bool false))] (by kernel_rfl) (by kernel_rfl)
    (by exact ⟨trivial, congrArg Value.bool h0, trivial⟩)
def oldF (s : Sd) (r : Sd) (g : Sg)  : Bool := (bif s.on then (decide ((G (EndS g) s.fin) > (IntKind.i64.wrap (r.win + 1)))) else false)
theorem c_old {w : World} (s : Sd) (r : Sd) (g : Sg)  {A : Option Addr} {c : Nat} (ok : g.Ok A c w) (hd : g.data.size ≤ 1000000) : Calls Try.prog 58 #[s.V, r.V, g.V A c] w fun e w' => e = .returned (.bool (oldF s r g)) ∧ Below w.heap.size w w' := by
  cases h0 : (s.on) with
  | true =>
    have e : oldF s r g = (decide ((G (EndS g) s.fin) > (IntKind.i64.wrap (r.win + 1)))) := by unfold oldF; rw [h0, cond_true]
    rw [e]
    exact c_old_0 s r g ok hd h0
  | false =>
    have e : oldF s r g = false := by unfold oldF; rw [h0, cond_false]
    rw [e]
    exact c_old_1 s r g ok hd h0
def c_unsent_T0 : Bool × List (List Nat × List Nat) := (true, [([], []), ([], []), ([0, 1], [0, 1]), ([2, 2], [2]), ([3], [3]), ([4, 3], [3, 4]), ([3], [3]), ([6, 3], [3, 6]), ([5, 7, 3, 3], [3, 5, 7]), ([8, 8, 3], [3, 8]), ([9], [9]), ([10, 9], [9, 10]), ([9], [9]), ([12, 9, 9], [9, 12]), ([11, 13, 13, 9], [9, 11, 13]), ([9, 14, 3], [3, 9, 14]), ([3, 15], [3, 15]), ([16, 14, 0, 1, 2, 3, 4, 5, 6, 7, 8, 9, 10, 11, 12, 13, 14, 15, 16], [16])])
def c_unsent_B0 : List Nat := [0, 0, 3, 7, 15, 31, 15, 79, 255, 511, 1023, 2047, 1023, 5119, 16383, 32767, 65535, 131071]
set_option maxRecDepth 100000 in
theorem c_unsent_0 {w : World} (s : Sd) (r : Sd) (g : Sg)  {A : Option Addr} {c : Nat} (ok : g.Ok A c w) (hd : g.data.size ≤ 1000000) (h0 : (tellsF r g) = true) (h1 : (decide (0 < G r.fin g.ack)) = true) : Calls Try.prog 59 #[s.V, r.V, g.V A c] w fun e w' => e = .returned (.bool true) ∧ Below w.heap.size w w' :=
  calls_of_check rfl Try.func59 1000000 [s.V, r.V, g.V A c] [(.sched c_unsent_T0 c_unsent_B0 [(4, 0), (4, 1), (4, 2), (4, 3), (4, 4), (4, 5), (4, 6), (5, 0), (5, 1), (5, 2), (5, 3), (5, 4), (5, 5), (5, 6), (5, 7), (5, 8), (5, 9), (5, 10), (5, 11), (5, 12), (5, 13), (5, 14)] [] (.s 1 0 (.s 1 1 (.s 2 2 (.s 0 3 (.s 0 4 (.s 0 6 (.s 1 5 (.s 1 7 (.s 2 8 (.s 0 9 (.s 0 10 (.s 0 11 (.s 0 12 (.s 0 13 (.s 0 14 (.s 0 15 (.s 0 16 (.s 0 17 .e))))))))))))))))))),
    (.call 66 [r.V, g.V A c] (.bool true)),
    (.call 61 [.int .u32 r.fin, .int .u32 g.ack] (.bool true))] (by kernel_rfl) (by kernel_rfl)
    (by exact ⟨trivial, ⟨ent Try.func66 rfl rfl, fun w' hw => ret_eq (congrArg Value.bool h0) ((fun w' hw => c_tells r g) w' hw)⟩, ⟨ent Try.func61 rfl rfl, fun w' hw => ret_eq (congrArg Value.bool h1) ((fun w' hw => c_before r.fin g.ack) w' hw)⟩, trivial⟩)
set_option maxRecDepth 100000 in
theorem c_unsent_1 {w : World} (s : Sd) (r : Sd) (g : Sg)  {A : Option Addr} {c : Nat} (ok : g.Ok A c w) (hd : g.data.size ≤ 1000000) (h0 : (tellsF r g) = true) (h1 : (decide (0 < G r.fin g.ack)) = false) : Calls Try.prog 59 #[s.V, r.V, g.V A c] w fun e w' => e = .returned (.bool (decide (0 < G r.fin (Last g)))) ∧ Below w.heap.size w w' :=
  calls_of_check rfl Try.func59 1000000 [s.V, r.V, g.V A c] [(.sched c_unsent_T0 c_unsent_B0 [(4, 0), (4, 1), (4, 2), (4, 3), (4, 4), (4, 5), (4, 6), (5, 0), (5, 1), (5, 2), (5, 3), (5, 4), (5, 5), (5, 6), (5, 7), (5, 8), (5, 9), (5, 10), (5, 11), (5, 12), (5, 13), (5, 14)] [] (.s 1 0 (.s 1 1 (.s 2 2 (.s 0 3 (.s 0 4 (.s 0 6 (.s 1 5 (.s 1 7 (.s 2 8 (.s 0 9 (.s 0 10 (.s 1 11 (.s 1 12 (.s 2 13 (.s 2 14 (.s 0 15 (.s 0 16 (.s 0 17 .e))))))))))))))))))),
    (.call 66 [r.V, g.V A c] (.bool true)),
    (.call 61 [.int .u32 r.fin, .int .u32 g.ack] (.bool false)),
    (.call 64 [g.V A c] (.int .u32 (Last g))),
    (.call 61 [.int .u32 r.fin, .int .u32 (Last g)] (.bool (decide (0 < G r.fin (Last g)))))] (by kernel_rfl) (by kernel_rfl)
    (by exact ⟨trivial, ⟨ent Try.func66 rfl rfl, fun w' hw => ret_eq (congrArg Value.bool h0) ((fun w' hw => c_tells r g) w' hw)⟩, ⟨ent Try.func61 rfl rfl, fun w' hw => ret_eq (congrArg Value.bool h1) ((fun w' hw => c_before r.fin g.ack) w' hw)⟩, ⟨ent Try.func64 rfl rfl, fun w' hw => c_last (s := g) (A := A) (c := c) (ok.keep hw) ⟩, ⟨ent Try.func61 rfl rfl, fun w' hw => c_before r.fin (Last g)⟩, trivial⟩)
set_option maxRecDepth 100000 in
theorem c_unsent_2 {w : World} (s : Sd) (r : Sd) (g : Sg)  {A : Option Addr} {c : Nat} (ok : g.Ok A c w) (hd : g.data.size ≤ 1000000) (h0 : (tellsF r g) = false) : Calls Try.prog 59 #[s.V, r.V, g.V A c] w fun e w' => e = .returned (.bool false) ∧ Below w.heap.size w w' :=
  calls_of_check rfl Try.func59 1000000 [s.V, r.V, g.V A c] [(.sched c_unsent_T0 c_unsent_B0 [(4, 0), (4, 1), (4, 2), (4, 3), (4, 4), (4, 5), (4, 6), (5, 0), (5, 1), (5, 2), (5, 3), (5, 4), (5, 5), (5, 6), (5, 7), (5, 8), (5, 9), (5, 10), (5, 11), (5, 12), (5, 13), (5, 14)] [] (.s 1 0 (.s 1 1 (.s 2 2 (.s 0 3 (.s 0 4 (.s 0 5 (.s 0 6 (.s 0 7 (.s 0 8 (.s 0 9 (.s 0 10 (.s 0 11 (.s 0 12 (.s 0 13 (.s 0 14 (.s 0 15 (.s 0 16 (.s 0 17 .e))))))))))))))))))),
    (.call 66 [r.V, g.V A c] (.bool false))] (by kernel_rfl) (by kernel_rfl)
    (by exact ⟨trivial, ⟨ent Try.func66 rfl rfl, fun w' hw => ret_eq (congrArg Value.bool h0) ((fun w' hw => c_tells r g) w' hw)⟩, trivial⟩)
def unsentF (s : Sd) (r : Sd) (g : Sg)  : Bool := (bif tellsF r g then (bif decide (0 < G r.fin g.ack) then true else (decide (0 < G r.fin (Last g)))) else false)
theorem c_unsent {w : World} (s : Sd) (r : Sd) (g : Sg)  {A : Option Addr} {c : Nat} (ok : g.Ok A c w) (hd : g.data.size ≤ 1000000) : Calls Try.prog 59 #[s.V, r.V, g.V A c] w fun e w' => e = .returned (.bool (unsentF s r g)) ∧ Below w.heap.size w w' := by
  cases h0 : (tellsF r g) with
  | true =>
    cases h1 : (decide (0 < G r.fin g.ack)) with
    | true =>
      have e : unsentF s r g = true := by unfold unsentF; rw [h0, cond_true, h1, cond_true]
      rw [e]
      exact c_unsent_0 s r g ok hd h0 h1
    | false =>
      have e : unsentF s r g = (decide (0 < G r.fin (Last g))) := by unfold unsentF; rw [h0, cond_true, h1, cond_false]
      rw [e]
      exact c_unsent_1 s r g ok hd h0 h1
  | false =>
    have e : unsentF s r g = false := by unfold unsentF; rw [h0, cond_false]
    rw [e]
    exact c_unsent_2 s r g ok hd h0
def c_stale_T0 : Bool × List (List Nat × List Nat) := (true, [([], []), ([], []), ([0, 1], [0, 1]), ([2, 2], [2]), ([3], [3]), ([4, 3], [3, 4]), ([3], [3]), ([6, 3], [3, 6]), ([5, 7, 3, 3], [3, 5, 7]), ([3], [3]), ([9, 3], [3, 9]), ([10, 3], [3, 10]), ([8, 11, 3], [3, 8, 11]), ([3, 12], [3, 12]), ([13, 8, 0, 1, 2, 3, 4, 5, 6, 7, 8, 9, 10, 11, 12, 13], [13])])
def c_stale_B0 : List Nat := [0, 0, 3, 7, 15, 31, 15, 79, 255, 15, 527, 1551, 4095, 8191, 16383]
set_option maxRecDepth 100000 in
theorem c_stale_0 {w : World} (s : Sd) (r : Sd) (g : Sg)  {A : Option Addr} {c : Nat} (ok : g.Ok A c w) (h0 : (tellsF r g) = true) : Calls Try.prog 60 #[s.V, r.V, g.V A c] w fun e w' => e = .returned (.bool (decide ((G g.ack r.fin) > (IntKind.i64.wrap (s.win + 1))))) ∧ Below w.heap.size w w' :=
  calls_of_check rfl Try.func60 1000000 [s.V, r.V, g.V A c] [(.sched c_stale_T0 c_stale_B0 [(3, 5), (4, 0), (4, 1), (4, 2), (4, 3), (4, 4), (4, 5), (4, 6), (5, 0), (5, 1), (5, 2), (5, 3), (5, 4), (5, 5), (5, 6), (5, 7), (5, 8), (5, 9), (5, 10), (5, 11), (5, 12), (5, 13), (5, 14)] [] (.s 1 0 (.s 1 1 (.s 2 2 (.s 0 3 (.s 0 4 (.s 0 6 (.s 0 9 (.s 1 5 (.s 1 7 (.s 1 10 (.s 0 11 (.s 2 8 (.s 0 12 (.s 0 13 (.s 0 14 .e)))))))))))))))),
    (.call 66 [r.V, g.V A c] (.bool true)),
    (.call 65 [.int .u32 g.ack, .int .u32 r.fin] (.int .i64 (G g.ack r.fin)))] (by kernel_rfl) (by kernel_rfl)
    (by exact ⟨trivial, ⟨ent Try.func66 rfl rfl, fun w' hw => ret_eq (congrArg Value.bool h0) ((fun w' hw => c_tells r g) w' hw)⟩, ⟨ent Try.func65 rfl rfl, fun w' hw => c_gap g.ack r.fin⟩, trivial⟩)
set_option maxRecDepth 100000 in
theorem c_stale_1 {w : World} (s : Sd) (r : Sd) (g : Sg)  {A : Option Addr} {c : Nat} (ok : g.Ok A c w) (h0 : (tellsF r g) = false) : Calls Try.prog 60 #[s.V, r.V, g.V A c] w fun e w' => e = .returned (.bool false) ∧ Below w.heap.size w w' :=
  calls_of_check rfl Try.func60 1000000 [s.V, r.V, g.V A c] [(.sched c_stale_T0 c_stale_B0 [(4, 0), (4, 1), (4, 2), (4, 3), (4, 4), (4, 5), (4, 6), (5, 0), (5, 1), (5, 2), (5, 3), (5, 4), (5, 5), (5, 6), (5, 7), (5, 8), (5, 9), (5, 10), (5, 11), (5, 12), (5, 13), (5, 14)] [] (.s 1 0 (.s 1 1 (.s 2 2 (.s 0 3 (.s 0 4 (.s 0 5 (.s 0 6 (.s 0 7 (.s 0 8 (.s 0 9 (.s 0 10 (.s 0 11 (.s 0 12 (.s 0 13 (.s 0 14 .e)))))))))))))))),
    (.call 66 [r.V, g.V A c] (.bool false))] (by kernel_rfl) (by kernel_rfl)
    (by exact ⟨trivial, ⟨ent Try.func66 rfl rfl, fun w' hw => ret_eq (congrArg Value.bool h0) ((fun w' hw => c_tells r g) w' hw)⟩, trivial⟩)
def staleF (s : Sd) (r : Sd) (g : Sg)  : Bool := (bif tellsF r g then (decide ((G g.ack r.fin) > (IntKind.i64.wrap (s.win + 1)))) else false)
theorem c_stale {w : World} (s : Sd) (r : Sd) (g : Sg)  {A : Option Addr} {c : Nat} (ok : g.Ok A c w) : Calls Try.prog 60 #[s.V, r.V, g.V A c] w fun e w' => e = .returned (.bool (staleF s r g)) ∧ Below w.heap.size w w' := by
  cases h0 : (tellsF r g) with
  | true =>
    have e : staleF s r g = (decide ((G g.ack r.fin) > (IntKind.i64.wrap (s.win + 1)))) := by unfold staleF; rw [h0, cond_true]
    rw [e]
    exact c_stale_0 s r g ok h0
  | false =>
    have e : staleF s r g = false := by unfold staleF; rw [h0, cond_false]
    rw [e]
    exact c_stale_1 s r g ok h0
def c_why_hp0 (s : Sd) (r : Sd) (g : Sg) (A : Option Addr) (c : Nat) : Hp := nn 3 (some (.b ⟨Sd.cs s, 24⟩) :: some (.b ⟨Sd.cs r, 24⟩) :: some (.b ⟨Sg.cs g A c, 29⟩) :: some (.b ⟨Sg.cs g A c, 29⟩) :: some (.b ⟨[.v (.int .i64 0)], 3⟩) :: nn 26 (some (.b ⟨Sd.cs s, 24⟩) :: some (.b ⟨Sd.cs r, 24⟩) :: []))
def c_why_up1 : List (Nat × Ent) := [(11, .b ⟨[.v (.int .i64 1), .v (.string ⟨#[102, 97, 114]⟩), .v (.func (.func 57) #[] #[]), .v (.int .i64 2), .v (.string ⟨#[111, 108, 100]⟩), .v (.func (.func 58) #[] #[]), .v (.int .i64 3), .v (.string ⟨#[117, 110, 115, 101, 110, 116]⟩), .v (.func (.func 59) #[] #[]), .v (.int .i64 4), .v (.string ⟨#[115, 116, 97, 108, 101]⟩), .v (.func (.func 60) #[] #[])], 70⟩)]
def c_why_hp2 (s : Sd) (r : Sd) (g : Sg) (A : Option Addr) (c : Nat) : Hp := nn 3 (some (.b ⟨Sd.cs s, 24⟩) :: some (.b ⟨Sd.cs r, 24⟩) :: some (.b ⟨Sg.cs g A c, 29⟩) :: some (.b ⟨Sg.cs g A c, 29⟩) :: some (.b ⟨[.v (.int .i64 0)], 3⟩) :: nn 1 (some (.b ⟨[.v (.int .i64 1), .v (.string ⟨#[102, 97, 114]⟩), .v (.func (.func 57) #[] #[])], 70⟩) :: nn 1 (some (.b ⟨[.v (.int .i64 1), .v (.string ⟨#[102, 97, 114]⟩), .v (.func (.func 57) #[] #[]), .v (.int .i64 2), .v (.string ⟨#[111, 108, 100]⟩), .v (.func (.func 58) #[] #[]), .v (.int .i64 3), .v (.string ⟨#[117, 110, 115, 101, 110, 116]⟩), .v (.func (.func 59) #[] #[]), .v (.int .i64 4), .v (.string ⟨#[115, 116, 97, 108, 101]⟩), .v (.func (.func 60) #[] #[])], 70⟩) :: nn 22 (some (.b ⟨Sd.cs s, 24⟩) :: some (.b ⟨Sd.cs r, 24⟩) :: []))))
def c_why_up3 : List (Nat × Ent) := [(7, .b ⟨[.v (.int .i64 1)], 3⟩)]
def c_why_hp4 (s : Sd) (r : Sd) (g : Sg) (A : Option Addr) (c : Nat) : Hp := nn 3 (some (.b ⟨Sd.cs s, 24⟩) :: some (.b ⟨Sd.cs r, 24⟩) :: some (.b ⟨Sg.cs g A c, 29⟩) :: nn 1 (some (.b ⟨[.v (.int .i64 0)], 3⟩) :: []))
def c_why_up5 (s : Sd) (r : Sd) (g : Sg) (A : Option Addr) (c : Nat) : List (Nat × Ent) := [(6, .b ⟨Sg.cs g A c, 29⟩), (7, .b ⟨[.v (.int .i64 1)], 3⟩), (9, .b ⟨[.v (.int .i64 1), .v (.string ⟨#[102, 97, 114]⟩), .v (.func (.func 57) #[] #[])], 70⟩), (11, .b ⟨[.v (.int .i64 1), .v (.string ⟨#[102, 97, 114]⟩), .v (.func (.func 57) #[] #[]), .v (.int .i64 2), .v (.string ⟨#[111, 108, 100]⟩), .v (.func (.func 58) #[] #[]), .v (.int .i64 3), .v (.string ⟨#[117, 110, 115, 101, 110, 116]⟩), .v (.func (.func 59) #[] #[]), .v (.int .i64 4), .v (.string ⟨#[115, 116, 97, 108, 101]⟩), .v (.func (.func 60) #[] #[])], 70⟩), (34, .b ⟨Sd.cs s, 24⟩), (35, .b ⟨Sd.cs r, 24⟩)]
def c_why_hp6 (s : Sd) (r : Sd) (g : Sg) (A : Option Addr) (c : Nat) : Hp := nn 3 (some (.b ⟨Sd.cs s, 24⟩) :: some (.b ⟨Sd.cs r, 24⟩) :: some (.b ⟨Sg.cs g A c, 29⟩) :: some (.b ⟨Sg.cs g A c, 29⟩) :: some (.b ⟨[.v (.int .i64 0)], 3⟩) :: nn 1 (some (.b ⟨[.v (.int .i64 1), .v (.string ⟨#[102, 97, 114]⟩), .v (.func (.func 57) #[] #[])], 70⟩) :: nn 1 (some (.b ⟨[.v (.int .i64 1), .v (.string ⟨#[102, 97, 114]⟩), .v (.func (.func 57) #[] #[]), .v (.int .i64 2), .v (.string ⟨#[111, 108, 100]⟩), .v (.func (.func 58) #[] #[]), .v (.int .i64 3), .v (.string ⟨#[117, 110, 115, 101, 110, 116]⟩), .v (.func (.func 59) #[] #[]), .v (.int .i64 4), .v (.string ⟨#[115, 116, 97, 108, 101]⟩), .v (.func (.func 60) #[] #[])], 70⟩) :: nn 22 (some (.b ⟨Sd.cs s, 24⟩) :: some (.b ⟨Sd.cs r, 24⟩) :: nn 3 (some (.b ⟨[.v (.int .i64 2), .v (.string ⟨#[111, 108, 100]⟩), .v (.func (.func 58) #[] #[])], 70⟩) :: [])))))
def c_why_up7 : List (Nat × Ent) := [(7, .b ⟨[.v (.int .i64 2)], 3⟩)]
def c_why_up8 (s : Sd) (r : Sd) (g : Sg) (A : Option Addr) (c : Nat) : List (Nat × Ent) := [(6, .b ⟨Sg.cs g A c, 29⟩), (7, .b ⟨[.v (.int .i64 2)], 3⟩), (9, .b ⟨[.v (.int .i64 1), .v (.string ⟨#[102, 97, 114]⟩), .v (.func (.func 57) #[] #[])], 70⟩), (11, .b ⟨[.v (.int .i64 1), .v (.string ⟨#[102, 97, 114]⟩), .v (.func (.func 57) #[] #[]), .v (.int .i64 2), .v (.string ⟨#[111, 108, 100]⟩), .v (.func (.func 58) #[] #[]), .v (.int .i64 3), .v (.string ⟨#[117, 110, 115, 101, 110, 116]⟩), .v (.func (.func 59) #[] #[]), .v (.int .i64 4), .v (.string ⟨#[115, 116, 97, 108, 101]⟩), .v (.func (.func 60) #[] #[])], 70⟩), (34, .b ⟨Sd.cs s, 24⟩), (35, .b ⟨Sd.cs r, 24⟩), (39, .b ⟨[.v (.int .i64 2), .v (.string ⟨#[111, 108, 100]⟩), .v (.func (.func 58) #[] #[])], 70⟩)]
def c_why_hp9 (s : Sd) (r : Sd) (g : Sg) (A : Option Addr) (c : Nat) : Hp := nn 3 (some (.b ⟨Sd.cs s, 24⟩) :: some (.b ⟨Sd.cs r, 24⟩) :: some (.b ⟨Sg.cs g A c, 29⟩) :: some (.b ⟨Sg.cs g A c, 29⟩) :: some (.b ⟨[.v (.int .i64 0)], 3⟩) :: nn 1 (some (.b ⟨[.v (.int .i64 1), .v (.string ⟨#[102, 97, 114]⟩), .v (.func (.func 57) #[] #[])], 70⟩) :: nn 1 (some (.b ⟨[.v (.int .i64 1), .v (.string ⟨#[102, 97, 114]⟩), .v (.func (.func 57) #[] #[]), .v (.int .i64 2), .v (.string ⟨#[111, 108, 100]⟩), .v (.func (.func 58) #[] #[]), .v (.int .i64 3), .v (.string ⟨#[117, 110, 115, 101, 110, 116]⟩), .v (.func (.func 59) #[] #[]), .v (.int .i64 4), .v (.string ⟨#[115, 116, 97, 108, 101]⟩), .v (.func (.func 60) #[] #[])], 70⟩) :: nn 22 (some (.b ⟨Sd.cs s, 24⟩) :: some (.b ⟨Sd.cs r, 24⟩) :: nn 3 (some (.b ⟨[.v (.int .i64 2), .v (.string ⟨#[111, 108, 100]⟩), .v (.func (.func 58) #[] #[])], 70⟩) :: nn 29 (some (.b ⟨[.v (.int .i64 3), .v (.string ⟨#[117, 110, 115, 101, 110, 116]⟩), .v (.func (.func 59) #[] #[])], 70⟩) :: []))))))
def c_why_up10 : List (Nat × Ent) := [(7, .b ⟨[.v (.int .i64 3)], 3⟩)]
def c_why_up11 (s : Sd) (r : Sd) (g : Sg) (A : Option Addr) (c : Nat) : List (Nat × Ent) := [(6, .b ⟨Sg.cs g A c, 29⟩), (7, .b ⟨[.v (.int .i64 3)], 3⟩), (9, .b ⟨[.v (.int .i64 1), .v (.string ⟨#[102, 97, 114]⟩), .v (.func (.func 57) #[] #[])], 70⟩), (11, .b ⟨[.v (.int .i64 1), .v (.string ⟨#[102, 97, 114]⟩), .v (.func (.func 57) #[] #[]), .v (.int .i64 2), .v (.string ⟨#[111, 108, 100]⟩), .v (.func (.func 58) #[] #[]), .v (.int .i64 3), .v (.string ⟨#[117, 110, 115, 101, 110, 116]⟩), .v (.func (.func 59) #[] #[]), .v (.int .i64 4), .v (.string ⟨#[115, 116, 97, 108, 101]⟩), .v (.func (.func 60) #[] #[])], 70⟩), (34, .b ⟨Sd.cs s, 24⟩), (35, .b ⟨Sd.cs r, 24⟩), (39, .b ⟨[.v (.int .i64 2), .v (.string ⟨#[111, 108, 100]⟩), .v (.func (.func 58) #[] #[])], 70⟩), (69, .b ⟨[.v (.int .i64 3), .v (.string ⟨#[117, 110, 115, 101, 110, 116]⟩), .v (.func (.func 59) #[] #[])], 70⟩)]
def c_why_hp12 (s : Sd) (r : Sd) (g : Sg) (A : Option Addr) (c : Nat) : Hp := nn 3 (some (.b ⟨Sd.cs s, 24⟩) :: some (.b ⟨Sd.cs r, 24⟩) :: some (.b ⟨Sg.cs g A c, 29⟩) :: some (.b ⟨Sg.cs g A c, 29⟩) :: some (.b ⟨[.v (.int .i64 0)], 3⟩) :: nn 1 (some (.b ⟨[.v (.int .i64 1), .v (.string ⟨#[102, 97, 114]⟩), .v (.func (.func 57) #[] #[])], 70⟩) :: nn 1 (some (.b ⟨[.v (.int .i64 1), .v (.string ⟨#[102, 97, 114]⟩), .v (.func (.func 57) #[] #[]), .v (.int .i64 2), .v (.string ⟨#[111, 108, 100]⟩), .v (.func (.func 58) #[] #[]), .v (.int .i64 3), .v (.string ⟨#[117, 110, 115, 101, 110, 116]⟩), .v (.func (.func 59) #[] #[]), .v (.int .i64 4), .v (.string ⟨#[115, 116, 97, 108, 101]⟩), .v (.func (.func 60) #[] #[])], 70⟩) :: nn 22 (some (.b ⟨Sd.cs s, 24⟩) :: some (.b ⟨Sd.cs r, 24⟩) :: nn 3 (some (.b ⟨[.v (.int .i64 2), .v (.string ⟨#[111, 108, 100]⟩), .v (.func (.func 58) #[] #[])], 70⟩) :: nn 29 (some (.b ⟨[.v (.int .i64 3), .v (.string ⟨#[117, 110, 115, 101, 110, 116]⟩), .v (.func (.func 59) #[] #[])], 70⟩) :: nn 29 (some (.b ⟨[.v (.int .i64 4), .v (.string ⟨#[115, 116, 97, 108, 101]⟩), .v (.func (.func 60) #[] #[])], 70⟩) :: [])))))))
def c_why_up13 : List (Nat × Ent) := [(7, .b ⟨[.v (.int .i64 4)], 3⟩)]
def c_why_up14 (s : Sd) (r : Sd) (g : Sg) (A : Option Addr) (c : Nat) : List (Nat × Ent) := [(6, .b ⟨Sg.cs g A c, 29⟩), (7, .b ⟨[.v (.int .i64 4)], 3⟩), (9, .b ⟨[.v (.int .i64 1), .v (.string ⟨#[102, 97, 114]⟩), .v (.func (.func 57) #[] #[])], 70⟩), (11, .b ⟨[.v (.int .i64 1), .v (.string ⟨#[102, 97, 114]⟩), .v (.func (.func 57) #[] #[]), .v (.int .i64 2), .v (.string ⟨#[111, 108, 100]⟩), .v (.func (.func 58) #[] #[]), .v (.int .i64 3), .v (.string ⟨#[117, 110, 115, 101, 110, 116]⟩), .v (.func (.func 59) #[] #[]), .v (.int .i64 4), .v (.string ⟨#[115, 116, 97, 108, 101]⟩), .v (.func (.func 60) #[] #[])], 70⟩), (34, .b ⟨Sd.cs s, 24⟩), (35, .b ⟨Sd.cs r, 24⟩), (39, .b ⟨[.v (.int .i64 2), .v (.string ⟨#[111, 108, 100]⟩), .v (.func (.func 58) #[] #[])], 70⟩), (69, .b ⟨[.v (.int .i64 3), .v (.string ⟨#[117, 110, 115, 101, 110, 116]⟩), .v (.func (.func 59) #[] #[])], 70⟩), (99, .b ⟨[.v (.int .i64 4), .v (.string ⟨#[115, 116, 97, 108, 101]⟩), .v (.func (.func 60) #[] #[])], 70⟩)]
def c_why_up15 (s : Sd) (r : Sd) (g : Sg) (A : Option Addr) (c : Nat) : List (Nat × Ent) := [(6, .b ⟨Sg.cs g A c, 29⟩), (9, .b ⟨[.v (.int .i64 1), .v (.string ⟨#[102, 97, 114]⟩), .v (.func (.func 57) #[] #[])], 70⟩), (11, .b ⟨[.v (.int .i64 1), .v (.string ⟨#[102, 97, 114]⟩), .v (.func (.func 57) #[] #[]), .v (.int .i64 2), .v (.string ⟨#[111, 108, 100]⟩), .v (.func (.func 58) #[] #[]), .v (.int .i64 3), .v (.string ⟨#[117, 110, 115, 101, 110, 116]⟩), .v (.func (.func 59) #[] #[]), .v (.int .i64 4), .v (.string ⟨#[115, 116, 97, 108, 101]⟩), .v (.func (.func 60) #[] #[])], 70⟩), (34, .b ⟨Sd.cs s, 24⟩), (35, .b ⟨Sd.cs r, 24⟩), (39, .b ⟨[.v (.int .i64 2), .v (.string ⟨#[111, 108, 100]⟩), .v (.func (.func 58) #[] #[])], 70⟩), (69, .b ⟨[.v (.int .i64 3), .v (.string ⟨#[117, 110, 115, 101, 110, 116]⟩), .v (.func (.func 59) #[] #[])], 70⟩), (99, .b ⟨[.v (.int .i64 4), .v (.string ⟨#[115, 116, 97, 108, 101]⟩), .v (.func (.func 60) #[] #[])], 70⟩)]
set_option maxRecDepth 100000 in
theorem c_why_s0 {w : World} (s : Sd) (r : Sd) (g : Sg)  {A : Option Addr} {c : Nat} (ok : g.Ok A c w) (hd : g.data.size ≤ 1000000) : PCalls Try.prog 43 [] (c_why_hp0 s r g A c) (upsB (c_why_hp0 s r g A c) c_why_up1) (.av (.one (.sl 11 0 4 4))) (w, []) :=
  pcalls_of_check rfl Try.func43 1000000 [] (c_why_hp0 s r g A c) [] c_why_up1 (by kernel_rfl) (by kernel_rfl)
    trivial
set_option maxRecDepth 100000 in
theorem c_why_s1 {w : World} (s : Sd) (r : Sd) (g : Sg)  {A : Option Addr} {c : Nat} (ok : g.Ok A c w) (hd : g.data.size ≤ 1000000) : PCalls Try.prog 40 [.av (.one (.v (.int .i64 1))), .av (.one (.p 7 0))] (c_why_hp2 s r g A c) (upsB (c_why_hp2 s r g A c) c_why_up3) (.av (.one (.v (.bool false)))) (w, []) :=
  pcalls_of_check rfl Try.func40 1000000 [.av (.one (.v (.int .i64 1))), .av (.one (.p 7 0))] (c_why_hp2 s r g A c) [] c_why_up3 (by kernel_rfl) (by kernel_rfl)
    trivial
set_option maxRecDepth 100000 in
theorem c_why_s2 {w : World} (s : Sd) (r : Sd) (g : Sg)  {A : Option Addr} {c : Nat} (ok : g.Ok A c w) (hd : g.data.size ≤ 1000000) (k0 : (farF s r g) = true) : PCalls Try.prog 39 [.av (.one (.v s.V)), .av (.one (.v r.V)), .av (.one (.v (g.V A c))), .av (.one (.fn (.func 40) [] [.p 7 0]))] (c_why_hp4 s r g A c) (upsB (c_why_hp4 s r g A c) (c_why_up5 s r g A c)) (.tu []) (w, []) :=
  pcalls_of_check rfl Try.func39 1000000 [.av (.one (.v s.V)), .av (.one (.v r.V)), .av (.one (.v (g.V A c))), .av (.one (.fn (.func 40) [] [.p 7 0]))] (c_why_hp4 s r g A c) [(.callp 43 [] (c_why_hp0 s r g A c) c_why_up1 (.av (.one (.sl 11 0 4 4)))),
    (.call 57 [s.V, r.V, g.V A c] (.bool true)),
    (.callp 40 [.av (.one (.v (.int .i64 1))), .av (.one (.p 7 0))] (c_why_hp2 s r g A c) c_why_up3 (.av (.one (.v (.bool false)))))] (c_why_up5 s r g A c) (by kernel_rfl) (by kernel_rfl)
    (by exact ⟨⟨ent Try.func43 rfl rfl, c_why_s0 s r g ok hd⟩, ⟨ent Try.func57 rfl rfl, fun w' hw => ret_eq (congrArg Value.bool k0) ((fun w' hw => c_far s r g (ok.keep hw) hd) w' hw)⟩, ⟨ent Try.func40 rfl rfl, c_why_s1 s r g ok hd⟩, trivial⟩)
set_option maxRecDepth 100000 in
theorem c_why_0 {w : World} (s : Sd) (r : Sd) (g : Sg)  {A : Option Addr} {c : Nat} (ok : g.Ok A c w) (hd : g.data.size ≤ 1000000) (h0 : (farF s r g) = true) : Calls Try.prog 14 #[s.V, r.V, g.V A c] w fun e w' => e = .returned (.int .i64 1) ∧ Below w.heap.size w w' :=
  calls_of_check rfl Try.func14 1000000 [s.V, r.V, g.V A c] [(.callp 39 [.av (.one (.v s.V)), .av (.one (.v r.V)), .av (.one (.v (g.V A c))), .av (.one (.fn (.func 40) [] [.p 7 0]))] (c_why_hp4 s r g A c) (c_why_up5 s r g A c) (.tu []))] (by kernel_rfl) (by kernel_rfl)
    (by exact ⟨⟨ent Try.func39 rfl rfl, c_why_s2 s r g ok hd h0⟩, trivial⟩)
set_option maxRecDepth 100000 in
theorem c_why_s3 {w : World} (s : Sd) (r : Sd) (g : Sg)  {A : Option Addr} {c : Nat} (ok : g.Ok A c w) (hd : g.data.size ≤ 1000000) : PCalls Try.prog 40 [.av (.one (.v (.int .i64 2))), .av (.one (.p 7 0))] (c_why_hp6 s r g A c) (upsB (c_why_hp6 s r g A c) c_why_up7) (.av (.one (.v (.bool false)))) (w, []) :=
  pcalls_of_check rfl Try.func40 1000000 [.av (.one (.v (.int .i64 2))), .av (.one (.p 7 0))] (c_why_hp6 s r g A c) [] c_why_up7 (by kernel_rfl) (by kernel_rfl)
    trivial
set_option maxRecDepth 100000 in
theorem c_why_s4 {w : World} (s : Sd) (r : Sd) (g : Sg)  {A : Option Addr} {c : Nat} (ok : g.Ok A c w) (hd : g.data.size ≤ 1000000) (k0 : (farF s r g) = false) (k1 : (oldF s r g) = true) : PCalls Try.prog 39 [.av (.one (.v s.V)), .av (.one (.v r.V)), .av (.one (.v (g.V A c))), .av (.one (.fn (.func 40) [] [.p 7 0]))] (c_why_hp4 s r g A c) (upsB (c_why_hp4 s r g A c) (c_why_up8 s r g A c)) (.tu []) (w, []) :=
  pcalls_of_check rfl Try.func39 1000000 [.av (.one (.v s.V)), .av (.one (.v r.V)), .av (.one (.v (g.V A c))), .av (.one (.fn (.func 40) [] [.p 7 0]))] (c_why_hp4 s r g A c) [(.callp 43 [] (c_why_hp0 s r g A c) c_why_up1 (.av (.one (.sl 11 0 4 4)))),
    (.call 57 [s.V, r.V, g.V A c] (.bool false)),
    (.call 58 [s.V, r.V, g.V A c] (.bool true)),
    (.callp 40 [.av (.one (.v (.int .i64 2))), .av (.one (.p 7 0))] (c_why_hp6 s r g A c) c_why_up7 (.av (.one (.v (.bool false)))))] (c_why_up8 s r g A c) (by kernel_rfl) (by kernel_rfl)
    (by exact ⟨⟨ent Try.func43 rfl rfl, c_why_s0 s r g ok hd⟩, ⟨ent Try.func57 rfl rfl, fun w' hw => ret_eq (congrArg Value.bool k0) ((fun w' hw => c_far s r g (ok.keep hw) hd) w' hw)⟩, ⟨ent Try.func58 rfl rfl, fun w' hw => ret_eq (congrArg Value.bool k1) ((fun w' hw => c_old s r g (ok.keep hw) hd) w' hw)⟩, ⟨ent Try.func40 rfl rfl, c_why_s3 s r g ok hd⟩, trivial⟩)
set_option maxRecDepth 100000 in
theorem c_why_1 {w : World} (s : Sd) (r : Sd) (g : Sg)  {A : Option Addr} {c : Nat} (ok : g.Ok A c w) (hd : g.data.size ≤ 1000000) (h0 : (farF s r g) = false) (h1 : (oldF s r g) = true) : Calls Try.prog 14 #[s.V, r.V, g.V A c] w fun e w' => e = .returned (.int .i64 2) ∧ Below w.heap.size w w' :=
  calls_of_check rfl Try.func14 1000000 [s.V, r.V, g.V A c] [(.callp 39 [.av (.one (.v s.V)), .av (.one (.v r.V)), .av (.one (.v (g.V A c))), .av (.one (.fn (.func 40) [] [.p 7 0]))] (c_why_hp4 s r g A c) (c_why_up8 s r g A c) (.tu []))] (by kernel_rfl) (by kernel_rfl)
    (by exact ⟨⟨ent Try.func39 rfl rfl, c_why_s4 s r g ok hd h0 h1⟩, trivial⟩)
set_option maxRecDepth 100000 in
theorem c_why_s5 {w : World} (s : Sd) (r : Sd) (g : Sg)  {A : Option Addr} {c : Nat} (ok : g.Ok A c w) (hd : g.data.size ≤ 1000000) : PCalls Try.prog 40 [.av (.one (.v (.int .i64 3))), .av (.one (.p 7 0))] (c_why_hp9 s r g A c) (upsB (c_why_hp9 s r g A c) c_why_up10) (.av (.one (.v (.bool false)))) (w, []) :=
  pcalls_of_check rfl Try.func40 1000000 [.av (.one (.v (.int .i64 3))), .av (.one (.p 7 0))] (c_why_hp9 s r g A c) [] c_why_up10 (by kernel_rfl) (by kernel_rfl)
    trivial
set_option maxRecDepth 100000 in
theorem c_why_s6 {w : World} (s : Sd) (r : Sd) (g : Sg)  {A : Option Addr} {c : Nat} (ok : g.Ok A c w) (hd : g.data.size ≤ 1000000) (k0 : (farF s r g) = false) (k1 : (oldF s r g) = false) (k2 : (unsentF s r g) = true) : PCalls Try.prog 39 [.av (.one (.v s.V)), .av (.one (.v r.V)), .av (.one (.v (g.V A c))), .av (.one (.fn (.func 40) [] [.p 7 0]))] (c_why_hp4 s r g A c) (upsB (c_why_hp4 s r g A c) (c_why_up11 s r g A c)) (.tu []) (w, []) :=
  pcalls_of_check rfl Try.func39 1000000 [.av (.one (.v s.V)), .av (.one (.v r.V)), .av (.one (.v (g.V A c))), .av (.one (.fn (.func 40) [] [.p 7 0]))] (c_why_hp4 s r g A c) [(.callp 43 [] (c_why_hp0 s r g A c) c_why_up1 (.av (.one (.sl 11 0 4 4)))),
    (.call 57 [s.V, r.V, g.V A c] (.bool false)),
    (.call 58 [s.V, r.V, g.V A c] (.bool false)),
    (.call 59 [s.V, r.V, g.V A c] (.bool true)),
    (.callp 40 [.av (.one (.v (.int .i64 3))), .av (.one (.p 7 0))] (c_why_hp9 s r g A c) c_why_up10 (.av (.one (.v (.bool false)))))] (c_why_up11 s r g A c) (by kernel_rfl) (by kernel_rfl)
    (by exact ⟨⟨ent Try.func43 rfl rfl, c_why_s0 s r g ok hd⟩, ⟨ent Try.func57 rfl rfl, fun w' hw => ret_eq (congrArg Value.bool k0) ((fun w' hw => c_far s r g (ok.keep hw) hd) w' hw)⟩, ⟨ent Try.func58 rfl rfl, fun w' hw => ret_eq (congrArg Value.bool k1) ((fun w' hw => c_old s r g (ok.keep hw) hd) w' hw)⟩, ⟨ent Try.func59 rfl rfl, fun w' hw => ret_eq (congrArg Value.bool k2) ((fun w' hw => c_unsent s r g (ok.keep hw) hd) w' hw)⟩, ⟨ent Try.func40 rfl rfl, c_why_s5 s r g ok hd⟩, trivial⟩)
set_option maxRecDepth 100000 in
theorem c_why_2 {w : World} (s : Sd) (r : Sd) (g : Sg)  {A : Option Addr} {c : Nat} (ok : g.Ok A c w) (hd : g.data.size ≤ 1000000) (h0 : (farF s r g) = false) (h1 : (oldF s r g) = false) (h2 : (unsentF s r g) = true) : Calls Try.prog 14 #[s.V, r.V, g.V A c] w fun e w' => e = .returned (.int .i64 3) ∧ Below w.heap.size w w' :=
  calls_of_check rfl Try.func14 1000000 [s.V, r.V, g.V A c] [(.callp 39 [.av (.one (.v s.V)), .av (.one (.v r.V)), .av (.one (.v (g.V A c))), .av (.one (.fn (.func 40) [] [.p 7 0]))] (c_why_hp4 s r g A c) (c_why_up11 s r g A c) (.tu []))] (by kernel_rfl) (by kernel_rfl)
    (by exact ⟨⟨ent Try.func39 rfl rfl, c_why_s6 s r g ok hd h0 h1 h2⟩, trivial⟩)
set_option maxRecDepth 100000 in
theorem c_why_s7 {w : World} (s : Sd) (r : Sd) (g : Sg)  {A : Option Addr} {c : Nat} (ok : g.Ok A c w) (hd : g.data.size ≤ 1000000) : PCalls Try.prog 40 [.av (.one (.v (.int .i64 4))), .av (.one (.p 7 0))] (c_why_hp12 s r g A c) (upsB (c_why_hp12 s r g A c) c_why_up13) (.av (.one (.v (.bool false)))) (w, []) :=
  pcalls_of_check rfl Try.func40 1000000 [.av (.one (.v (.int .i64 4))), .av (.one (.p 7 0))] (c_why_hp12 s r g A c) [] c_why_up13 (by kernel_rfl) (by kernel_rfl)
    trivial
set_option maxRecDepth 100000 in
theorem c_why_s8 {w : World} (s : Sd) (r : Sd) (g : Sg)  {A : Option Addr} {c : Nat} (ok : g.Ok A c w) (hd : g.data.size ≤ 1000000) (k0 : (farF s r g) = false) (k1 : (oldF s r g) = false) (k2 : (unsentF s r g) = false) (k3 : (staleF s r g) = true) : PCalls Try.prog 39 [.av (.one (.v s.V)), .av (.one (.v r.V)), .av (.one (.v (g.V A c))), .av (.one (.fn (.func 40) [] [.p 7 0]))] (c_why_hp4 s r g A c) (upsB (c_why_hp4 s r g A c) (c_why_up14 s r g A c)) (.tu []) (w, []) :=
  pcalls_of_check rfl Try.func39 1000000 [.av (.one (.v s.V)), .av (.one (.v r.V)), .av (.one (.v (g.V A c))), .av (.one (.fn (.func 40) [] [.p 7 0]))] (c_why_hp4 s r g A c) [(.callp 43 [] (c_why_hp0 s r g A c) c_why_up1 (.av (.one (.sl 11 0 4 4)))),
    (.call 57 [s.V, r.V, g.V A c] (.bool false)),
    (.call 58 [s.V, r.V, g.V A c] (.bool false)),
    (.call 59 [s.V, r.V, g.V A c] (.bool false)),
    (.call 60 [s.V, r.V, g.V A c] (.bool true)),
    (.callp 40 [.av (.one (.v (.int .i64 4))), .av (.one (.p 7 0))] (c_why_hp12 s r g A c) c_why_up13 (.av (.one (.v (.bool false)))))] (c_why_up14 s r g A c) (by kernel_rfl) (by kernel_rfl)
    (by exact ⟨⟨ent Try.func43 rfl rfl, c_why_s0 s r g ok hd⟩, ⟨ent Try.func57 rfl rfl, fun w' hw => ret_eq (congrArg Value.bool k0) ((fun w' hw => c_far s r g (ok.keep hw) hd) w' hw)⟩, ⟨ent Try.func58 rfl rfl, fun w' hw => ret_eq (congrArg Value.bool k1) ((fun w' hw => c_old s r g (ok.keep hw) hd) w' hw)⟩, ⟨ent Try.func59 rfl rfl, fun w' hw => ret_eq (congrArg Value.bool k2) ((fun w' hw => c_unsent s r g (ok.keep hw) hd) w' hw)⟩, ⟨ent Try.func60 rfl rfl, fun w' hw => ret_eq (congrArg Value.bool k3) ((fun w' hw => c_stale s r g (ok.keep hw)) w' hw)⟩, ⟨ent Try.func40 rfl rfl, c_why_s7 s r g ok hd⟩, trivial⟩)
set_option maxRecDepth 100000 in
theorem c_why_3 {w : World} (s : Sd) (r : Sd) (g : Sg)  {A : Option Addr} {c : Nat} (ok : g.Ok A c w) (hd : g.data.size ≤ 1000000) (h0 : (farF s r g) = false) (h1 : (oldF s r g) = false) (h2 : (unsentF s r g) = false) (h3 : (staleF s r g) = true) : Calls Try.prog 14 #[s.V, r.V, g.V A c] w fun e w' => e = .returned (.int .i64 4) ∧ Below w.heap.size w w' :=
  calls_of_check rfl Try.func14 1000000 [s.V, r.V, g.V A c] [(.callp 39 [.av (.one (.v s.V)), .av (.one (.v r.V)), .av (.one (.v (g.V A c))), .av (.one (.fn (.func 40) [] [.p 7 0]))] (c_why_hp4 s r g A c) (c_why_up14 s r g A c) (.tu []))] (by kernel_rfl) (by kernel_rfl)
    (by exact ⟨⟨ent Try.func39 rfl rfl, c_why_s8 s r g ok hd h0 h1 h2 h3⟩, trivial⟩)
set_option maxRecDepth 100000 in
theorem c_why_s9 {w : World} (s : Sd) (r : Sd) (g : Sg)  {A : Option Addr} {c : Nat} (ok : g.Ok A c w) (hd : g.data.size ≤ 1000000) (k0 : (farF s r g) = false) (k1 : (oldF s r g) = false) (k2 : (unsentF s r g) = false) (k3 : (staleF s r g) = false) : PCalls Try.prog 39 [.av (.one (.v s.V)), .av (.one (.v r.V)), .av (.one (.v (g.V A c))), .av (.one (.fn (.func 40) [] [.p 7 0]))] (c_why_hp4 s r g A c) (upsB (c_why_hp4 s r g A c) (c_why_up15 s r g A c)) (.tu []) (w, []) :=
  pcalls_of_check rfl Try.func39 1000000 [.av (.one (.v s.V)), .av (.one (.v r.V)), .av (.one (.v (g.V A c))), .av (.one (.fn (.func 40) [] [.p 7 0]))] (c_why_hp4 s r g A c) [(.callp 43 [] (c_why_hp0 s r g A c) c_why_up1 (.av (.one (.sl 11 0 4 4)))),
    (.call 57 [s.V, r.V, g.V A c] (.bool false)),
    (.call 58 [s.V, r.V, g.V A c] (.bool false)),
    (.call 59 [s.V, r.V, g.V A c] (.bool false)),
    (.call 60 [s.V, r.V, g.V A c] (.bool false))] (c_why_up15 s r g A c) (by kernel_rfl) (by kernel_rfl)
    (by exact ⟨⟨ent Try.func43 rfl rfl, c_why_s0 s r g ok hd⟩, ⟨ent Try.func57 rfl rfl, fun w' hw => ret_eq (congrArg Value.bool k0) ((fun w' hw => c_far s r g (ok.keep hw) hd) w' hw)⟩, ⟨ent Try.func58 rfl rfl, fun w' hw => ret_eq (congrArg Value.bool k1) ((fun w' hw => c_old s r g (ok.keep hw) hd) w' hw)⟩, ⟨ent Try.func59 rfl rfl, fun w' hw => ret_eq (congrArg Value.bool k2) ((fun w' hw => c_unsent s r g (ok.keep hw) hd) w' hw)⟩, ⟨ent Try.func60 rfl rfl, fun w' hw => ret_eq (congrArg Value.bool k3) ((fun w' hw => c_stale s r g (ok.keep hw)) w' hw)⟩, trivial⟩)
set_option maxRecDepth 100000 in
theorem c_why_4 {w : World} (s : Sd) (r : Sd) (g : Sg)  {A : Option Addr} {c : Nat} (ok : g.Ok A c w) (hd : g.data.size ≤ 1000000) (h0 : (farF s r g) = false) (h1 : (oldF s r g) = false) (h2 : (unsentF s r g) = false) (h3 : (staleF s r g) = false) : Calls Try.prog 14 #[s.V, r.V, g.V A c] w fun e w' => e = .returned (.int .i64 0) ∧ Below w.heap.size w w' :=
  calls_of_check rfl Try.func14 1000000 [s.V, r.V, g.V A c] [(.callp 39 [.av (.one (.v s.V)), .av (.one (.v r.V)), .av (.one (.v (g.V A c))), .av (.one (.fn (.func 40) [] [.p 7 0]))] (c_why_hp4 s r g A c) (c_why_up15 s r g A c) (.tu []))] (by kernel_rfl) (by kernel_rfl)
    (by exact ⟨⟨ent Try.func39 rfl rfl, c_why_s9 s r g ok hd h0 h1 h2 h3⟩, trivial⟩)
def whyF (s : Sd) (r : Sd) (g : Sg)  : Int := (bif farF s r g then 1 else (bif oldF s r g then 2 else (bif unsentF s r g then 3 else (bif staleF s r g then 4 else 0))))
theorem c_why {w : World} (s : Sd) (r : Sd) (g : Sg)  {A : Option Addr} {c : Nat} (ok : g.Ok A c w) (hd : g.data.size ≤ 1000000) : Calls Try.prog 14 #[s.V, r.V, g.V A c] w fun e w' => e = .returned (.int .i64 (whyF s r g)) ∧ Below w.heap.size w w' := by
  cases h0 : (farF s r g) with
  | true =>
    have e : whyF s r g = 1 := by unfold whyF; rw [h0, cond_true]
    rw [e]
    exact c_why_0 s r g ok hd h0
  | false =>
    cases h1 : (oldF s r g) with
    | true =>
      have e : whyF s r g = 2 := by unfold whyF; rw [h0, cond_false, h1, cond_true]
      rw [e]
      exact c_why_1 s r g ok hd h0 h1
    | false =>
      cases h2 : (unsentF s r g) with
      | true =>
        have e : whyF s r g = 3 := by unfold whyF; rw [h0, cond_false, h1, cond_false, h2, cond_true]
        rw [e]
        exact c_why_2 s r g ok hd h0 h1 h2
      | false =>
        cases h3 : (staleF s r g) with
        | true =>
          have e : whyF s r g = 4 := by unfold whyF; rw [h0, cond_false, h1, cond_false, h2, cond_false, h3, cond_true]
          rw [e]
          exact c_why_3 s r g ok hd h0 h1 h2 h3
        | false =>
          have e : whyF s r g = 0 := by unfold whyF; rw [h0, cond_false, h1, cond_false, h2, cond_false, h3, cond_false]
          rw [e]
          exact c_why_4 s r g ok hd h0 h1 h2 h3
def c_name_hp0 : Hp := []
def c_name_up1 : List (Nat × Ent) := [(5, .b ⟨[.v (.int .i64 1), .v (.string ⟨#[102, 97, 114]⟩), .v (.func (.func 57) #[] #[]), .v (.int .i64 2), .v (.string ⟨#[111, 108, 100]⟩), .v (.func (.func 58) #[] #[]), .v (.int .i64 3), .v (.string ⟨#[117, 110, 115, 101, 110, 116]⟩), .v (.func (.func 59) #[] #[]), .v (.int .i64 4), .v (.string ⟨#[115, 116, 97, 108, 101]⟩), .v (.func (.func 60) #[] #[])], 70⟩)]
set_option maxRecDepth 100000 in
theorem c_name_0 {w : World} (n : Int)  (h0 : (n == 0) = true) : Calls Try.prog 20 #[.int .i64 n] w fun e w' => e = .returned (.string ⟨#[102, 105, 110, 101]⟩) ∧ Below w.heap.size w w' :=
  calls_of_check rfl Try.func20 1000000 [.int .i64 n] [(.cast 6 (.bool (n == 0)) (.bool true))] (by kernel_rfl) (by kernel_rfl)
    (by exact ⟨congrArg Value.bool h0, trivial⟩)
set_option maxRecDepth 100000 in
theorem c_name_s0 {w : World} (n : Int)  : PCalls Try.prog 43 [] c_name_hp0 (upsB c_name_hp0 c_name_up1) (.av (.one (.sl 5 0 4 4))) (w, []) :=
  pcalls_of_check rfl Try.func43 1000000 [] c_name_hp0 [] c_name_up1 (by kernel_rfl) (by kernel_rfl)
    trivial
set_option maxRecDepth 100000 in
theorem c_name_1 {w : World} (n : Int)  (h0 : (n == 0) = false) (h1 : (1 == n) = true) : Calls Try.prog 20 #[.int .i64 n] w fun e w' => e = .returned (.string ⟨#[102, 97, 114]⟩) ∧ Below w.heap.size w w' :=
  calls_of_check rfl Try.func20 1000000 [.int .i64 n] [(.cast 6 (.bool (n == 0)) (.bool false)),
    (.callp 43 [] c_name_hp0 c_name_up1 (.av (.one (.sl 5 0 4 4)))),
    (.cast 16 (.bool (1 == n)) (.bool true))] (by kernel_rfl) (by kernel_rfl)
    (by exact ⟨congrArg Value.bool h0, ⟨ent Try.func43 rfl rfl, c_name_s0 n⟩, congrArg Value.bool h1, trivial⟩)
set_option maxRecDepth 100000 in
theorem c_name_2 {w : World} (n : Int)  (h0 : (n == 0) = false) (h1 : (1 == n) = false) (h2 : (2 == n) = true) : Calls Try.prog 20 #[.int .i64 n] w fun e w' => e = .returned (.string ⟨#[111, 108, 100]⟩) ∧ Below w.heap.size w w' :=
  calls_of_check rfl Try.func20 1000000 [.int .i64 n] [(.cast 6 (.bool (n == 0)) (.bool false)),
    (.callp 43 [] c_name_hp0 c_name_up1 (.av (.one (.sl 5 0 4 4)))),
    (.cast 16 (.bool (1 == n)) (.bool false)),
    (.cast 16 (.bool (2 == n)) (.bool true))] (by kernel_rfl) (by kernel_rfl)
    (by exact ⟨congrArg Value.bool h0, ⟨ent Try.func43 rfl rfl, c_name_s0 n⟩, congrArg Value.bool h1, congrArg Value.bool h2, trivial⟩)
set_option maxRecDepth 100000 in
theorem c_name_3 {w : World} (n : Int)  (h0 : (n == 0) = false) (h1 : (1 == n) = false) (h2 : (2 == n) = false) (h3 : (3 == n) = true) : Calls Try.prog 20 #[.int .i64 n] w fun e w' => e = .returned (.string ⟨#[117, 110, 115, 101, 110, 116]⟩) ∧ Below w.heap.size w w' :=
  calls_of_check rfl Try.func20 1000000 [.int .i64 n] [(.cast 6 (.bool (n == 0)) (.bool false)),
    (.callp 43 [] c_name_hp0 c_name_up1 (.av (.one (.sl 5 0 4 4)))),
    (.cast 16 (.bool (1 == n)) (.bool false)),
    (.cast 16 (.bool (2 == n)) (.bool false)),
    (.cast 16 (.bool (3 == n)) (.bool true))] (by kernel_rfl) (by kernel_rfl)
    (by exact ⟨congrArg Value.bool h0, ⟨ent Try.func43 rfl rfl, c_name_s0 n⟩, congrArg Value.bool h1, congrArg Value.bool h2, congrArg Value.bool h3, trivial⟩)
set_option maxRecDepth 100000 in
theorem c_name_4 {w : World} (n : Int)  (h0 : (n == 0) = false) (h1 : (1 == n) = false) (h2 : (2 == n) = false) (h3 : (3 == n) = false) (h4 : (4 == n) = true) : Calls Try.prog 20 #[.int .i64 n] w fun e w' => e = .returned (.string ⟨#[115, 116, 97, 108, 101]⟩) ∧ Below w.heap.size w w' :=
  calls_of_check rfl Try.func20 1000000 [.int .i64 n] [(.cast 6 (.bool (n == 0)) (.bool false)),
    (.callp 43 [] c_name_hp0 c_name_up1 (.av (.one (.sl 5 0 4 4)))),
    (.cast 16 (.bool (1 == n)) (.bool false)),
    (.cast 16 (.bool (2 == n)) (.bool false)),
    (.cast 16 (.bool (3 == n)) (.bool false)),
    (.cast 16 (.bool (4 == n)) (.bool true))] (by kernel_rfl) (by kernel_rfl)
    (by exact ⟨congrArg Value.bool h0, ⟨ent Try.func43 rfl rfl, c_name_s0 n⟩, congrArg Value.bool h1, congrArg Value.bool h2, congrArg Value.bool h3, congrArg Value.bool h4, trivial⟩)
set_option maxRecDepth 100000 in
theorem c_name_5 {w : World} (n : Int)  (h0 : (n == 0) = false) (h1 : (1 == n) = false) (h2 : (2 == n) = false) (h3 : (3 == n) = false) (h4 : (4 == n) = false) : Calls Try.prog 20 #[.int .i64 n] w fun e w' => e = .returned (.string ⟨#[]⟩) ∧ Below w.heap.size w w' :=
  calls_of_check rfl Try.func20 1000000 [.int .i64 n] [(.cast 6 (.bool (n == 0)) (.bool false)),
    (.callp 43 [] c_name_hp0 c_name_up1 (.av (.one (.sl 5 0 4 4)))),
    (.cast 16 (.bool (1 == n)) (.bool false)),
    (.cast 16 (.bool (2 == n)) (.bool false)),
    (.cast 16 (.bool (3 == n)) (.bool false)),
    (.cast 16 (.bool (4 == n)) (.bool false))] (by kernel_rfl) (by kernel_rfl)
    (by exact ⟨congrArg Value.bool h0, ⟨ent Try.func43 rfl rfl, c_name_s0 n⟩, congrArg Value.bool h1, congrArg Value.bool h2, congrArg Value.bool h3, congrArg Value.bool h4, trivial⟩)
def nameF (n : Int)  : ByteArray := (bif n == 0 then ⟨#[102, 105, 110, 101]⟩ else (bif 1 == n then ⟨#[102, 97, 114]⟩ else (bif 2 == n then ⟨#[111, 108, 100]⟩ else (bif 3 == n then ⟨#[117, 110, 115, 101, 110, 116]⟩ else (bif 4 == n then ⟨#[115, 116, 97, 108, 101]⟩ else ⟨#[]⟩)))))
theorem c_name {w : World} (n : Int)  : Calls Try.prog 20 #[.int .i64 n] w fun e w' => e = .returned (.string (nameF n)) ∧ Below w.heap.size w w' := by
  cases h0 : (n == 0) with
  | true =>
    have e : nameF n = ⟨#[102, 105, 110, 101]⟩ := by unfold nameF; rw [h0, cond_true]
    rw [e]
    exact c_name_0 n h0
  | false =>
    cases h1 : (1 == n) with
    | true =>
      have e : nameF n = ⟨#[102, 97, 114]⟩ := by unfold nameF; rw [h0, cond_false, h1, cond_true]
      rw [e]
      exact c_name_1 n h0 h1
    | false =>
      cases h2 : (2 == n) with
      | true =>
        have e : nameF n = ⟨#[111, 108, 100]⟩ := by unfold nameF; rw [h0, cond_false, h1, cond_false, h2, cond_true]
        rw [e]
        exact c_name_2 n h0 h1 h2
      | false =>
        cases h3 : (3 == n) with
        | true =>
          have e : nameF n = ⟨#[117, 110, 115, 101, 110, 116]⟩ := by unfold nameF; rw [h0, cond_false, h1, cond_false, h2, cond_false, h3, cond_true]
          rw [e]
          exact c_name_3 n h0 h1 h2 h3
        | false =>
          cases h4 : (4 == n) with
          | true =>
            have e : nameF n = ⟨#[115, 116, 97, 108, 101]⟩ := by unfold nameF; rw [h0, cond_false, h1, cond_false, h2, cond_false, h3, cond_false, h4, cond_true]
            rw [e]
            exact c_name_4 n h0 h1 h2 h3 h4
          | false =>
            have e : nameF n = ⟨#[]⟩ := by unfold nameF; rw [h0, cond_false, h1, cond_false, h2, cond_false, h3, cond_false, h4, cond_false]
            rw [e]
            exact c_name_5 n h0 h1 h2 h3 h4
set_option maxRecDepth 100000 in
theorem c_rname0_0 {w : World}  : Calls Try.prog 21 #[.int .i64 0] w fun e w' => e = .returned (.string ⟨#[102, 105, 110, 101]⟩) ∧ Below w.heap.size w w' :=
  calls_of_check rfl Try.func21 1000000 [.int .i64 0] [] (by kernel_rfl) (by kernel_rfl)
    trivial
def rname0F  : ByteArray := ⟨#[102, 105, 110, 101]⟩
theorem c_rname0 {w : World}  : Calls Try.prog 21 #[.int .i64 0] w fun e w' => e = .returned (.string (rname0F)) ∧ Below w.heap.size w w' := by
  exact c_rname0_0 
set_option maxRecDepth 100000 in
theorem c_rname1_0 {w : World}  : Calls Try.prog 21 #[.int .i64 1] w fun e w' => e = .returned (.string ⟨#[102, 97, 114]⟩) ∧ Below w.heap.size w w' :=
  calls_of_check rfl Try.func21 1000000 [.int .i64 1] [] (by kernel_rfl) (by kernel_rfl)
    trivial
def rname1F  : ByteArray := ⟨#[102, 97, 114]⟩
theorem c_rname1 {w : World}  : Calls Try.prog 21 #[.int .i64 1] w fun e w' => e = .returned (.string (rname1F)) ∧ Below w.heap.size w w' := by
  exact c_rname1_0 
set_option maxRecDepth 100000 in
theorem c_rname2_0 {w : World}  : Calls Try.prog 21 #[.int .i64 2] w fun e w' => e = .returned (.string ⟨#[111, 108, 100]⟩) ∧ Below w.heap.size w w' :=
  calls_of_check rfl Try.func21 1000000 [.int .i64 2] [] (by kernel_rfl) (by kernel_rfl)
    trivial
def rname2F  : ByteArray := ⟨#[111, 108, 100]⟩
theorem c_rname2 {w : World}  : Calls Try.prog 21 #[.int .i64 2] w fun e w' => e = .returned (.string (rname2F)) ∧ Below w.heap.size w w' := by
  exact c_rname2_0 
set_option maxRecDepth 100000 in
theorem c_rname3_0 {w : World}  : Calls Try.prog 21 #[.int .i64 3] w fun e w' => e = .returned (.string ⟨#[117, 110, 115, 101, 110, 116]⟩) ∧ Below w.heap.size w w' :=
  calls_of_check rfl Try.func21 1000000 [.int .i64 3] [] (by kernel_rfl) (by kernel_rfl)
    trivial
def rname3F  : ByteArray := ⟨#[117, 110, 115, 101, 110, 116]⟩
theorem c_rname3 {w : World}  : Calls Try.prog 21 #[.int .i64 3] w fun e w' => e = .returned (.string (rname3F)) ∧ Below w.heap.size w w' := by
  exact c_rname3_0 
set_option maxRecDepth 100000 in
theorem c_rname4_0 {w : World}  : Calls Try.prog 21 #[.int .i64 4] w fun e w' => e = .returned (.string ⟨#[115, 116, 97, 108, 101]⟩) ∧ Below w.heap.size w w' :=
  calls_of_check rfl Try.func21 1000000 [.int .i64 4] [] (by kernel_rfl) (by kernel_rfl)
    trivial
def rname4F  : ByteArray := ⟨#[115, 116, 97, 108, 101]⟩
theorem c_rname4 {w : World}  : Calls Try.prog 21 #[.int .i64 4] w fun e w' => e = .returned (.string (rname4F)) ∧ Below w.heap.size w w' := by
  exact c_rname4_0 
set_option maxRecDepth 100000 in
theorem c_rnameL_0 {w : World} (n : Int)  (h0 : (decide (n < 0)) = true) : Calls Try.prog 21 #[.int .i64 n] w fun e w' => e = .returned (.string ⟨#[]⟩) ∧ Below w.heap.size w w' :=
  calls_of_check rfl Try.func21 1000000 [.int .i64 n] [(.cast 4 (.bool (decide (n < 0))) (.bool true))] (by kernel_rfl) (by kernel_rfl)
    (by exact ⟨congrArg Value.bool h0, trivial⟩)
set_option maxRecDepth 100000 in
theorem c_rnameH_0 {w : World} (n : Int)  (h0 : (decide (n < 0)) = false) (h1 : (decide (n > 4)) = true) : Calls Try.prog 21 #[.int .i64 n] w fun e w' => e = .returned (.string ⟨#[]⟩) ∧ Below w.heap.size w w' :=
  calls_of_check rfl Try.func21 1000000 [.int .i64 n] [(.cast 4 (.bool (decide (n < 0))) (.bool false)),
    (.cast 7 (.bool (decide (n > 4))) (.bool true))] (by kernel_rfl) (by kernel_rfl)
    (by exact ⟨congrArg Value.bool h0, congrArg Value.bool h1, trivial⟩)
theorem c_rname {w : World} (n : Int) : Calls Try.prog 21 #[.int .i64 n] w fun e w' => e = .returned (.string (nameF n)) ∧ Below w.heap.size w w' := by
  by_cases h0 : n < 0
  · have e : nameF n = ⟨#[]⟩ := by unfold nameF; rw [beq_false_of_ne (show n ≠ 0 by omega), beq_false_of_ne (show 1 ≠ n by omega), beq_false_of_ne (show 2 ≠ n by omega), beq_false_of_ne (show 3 ≠ n by omega), beq_false_of_ne (show 4 ≠ n by omega)]; rfl
    rw [e]
    exact c_rnameL_0 n (decide_eq_true h0)
  · by_cases h1 : n > 4
    · have e : nameF n = ⟨#[]⟩ := by unfold nameF; rw [beq_false_of_ne (show n ≠ 0 by omega), beq_false_of_ne (show 1 ≠ n by omega), beq_false_of_ne (show 2 ≠ n by omega), beq_false_of_ne (show 3 ≠ n by omega), beq_false_of_ne (show 4 ≠ n by omega)]; rfl
      rw [e]
      exact c_rnameH_0 n (decide_eq_false h0) (decide_eq_true h1)
    · have : n = 0 ∨ n = 1 ∨ n = 2 ∨ n = 3 ∨ n = 4 := by omega
      rcases this with rfl | rfl | rfl | rfl | rfl
      · exact c_rname0_0
      · exact c_rname1_0
      · exact c_rname2_0
      · exact c_rname3_0
      · exact c_rname4_0
def c_rwhy_T0 : Bool × List (List Nat × List Nat) := (true, [([], []), ([0], [0]), ([1], [1]), ([2], [2]), ([2], [2]), ([4, 2], [2, 4]), ([3, 5, 2, 2], [2, 3, 5]), ([2], [2]), ([7, 2], [2, 7]), ([8, 2], [2, 8]), ([6, 9, 2], [2, 6, 9]), ([2, 10], [2, 10])])
def c_rwhy_B0 : List Nat := [0, 1, 3, 7, 7, 23, 63, 7, 135, 391, 1023, 2047]
def c_rwhy_T1 : Bool × List (List Nat × List Nat) := (true, [([], []), ([0], [0]), ([1], [1]), ([2], [2]), ([2, 3], [2, 3]), ([4, 2], [4]), ([5], [5]), ([6, 5], [5, 6]), ([5], [5]), ([8, 5], [5, 8]), ([7, 9, 5, 5], [5, 7, 9]), ([10, 10, 5], [5, 10]), ([11], [11]), ([12, 11], [11, 12]), ([11], [11]), ([14, 11, 11], [11, 14]), ([13, 15, 15, 11], [11, 13, 15]), ([11, 16, 5], [5, 11, 16]), ([5, 17], [5, 17])])
def c_rwhy_B1 : List Nat := [0, 1, 3, 7, 15, 31, 63, 127, 63, 319, 1023, 2047, 4095, 8191, 4095, 20479, 65535, 131071, 262143]
def c_rwhy_T2 : Bool × List (List Nat × List Nat) := (true, [([], []), ([0], [0]), ([1], [1]), ([2], [2]), ([2, 3], [2, 3]), ([4, 2], [4]), ([5], [5]), ([6, 5], [5, 6]), ([5], [5]), ([8, 5], [5, 8]), ([7, 9, 5, 5], [5, 7, 9]), ([5], [5]), ([11, 5], [5, 11]), ([12, 5], [5, 12]), ([10, 13, 5], [5, 10, 13]), ([5, 14], [5, 14])])
def c_rwhy_B2 : List Nat := [0, 1, 3, 7, 15, 31, 63, 127, 63, 319, 1023, 63, 2111, 6207, 16383, 32767]
def c_rwhy_hp0 (s : Sd) (r : Sd) (g : Sg) (A : Option Addr) (c : Nat) : Hp := nn 3 (some (.b ⟨Sd.cs s, 34⟩) :: some (.b ⟨Sd.cs r, 34⟩) :: some (.b ⟨Sg.cs g A c, 29⟩) :: [])
def c_rwhy_up1 (s : Sd) (r : Sd) (g : Sg) (A : Option Addr) (c : Nat) : List (Nat × Ent) := [(30, .b ⟨[.v (.int .i64 1)], 3⟩), (31, .d), (45, .b ⟨[.v (.int .i64 2)], 3⟩), (46, .d), (67, .b ⟨[.v (.int .i64 3)], 3⟩), (68, .d), (86, .b ⟨[.v (.int .i64 4)], 3⟩), (87, .r [.v (.int .i64 1), .v (.int .i64 2), .v (.int .i64 3), .v (.int .i64 4)] 3 1), (92, .b ⟨Sd.cs s, 34⟩), (93, .b ⟨Sd.cs r, 34⟩), (94, .b ⟨Sg.cs g A c, 29⟩)]
def c_rwhy_up2 (s : Sd) (r : Sd) (g : Sg) (A : Option Addr) (c : Nat) : List (Nat × Ent) := [(30, .b ⟨[.v (.int .i64 1)], 3⟩), (31, .d), (45, .b ⟨[.v (.int .i64 2)], 3⟩), (46, .d), (67, .b ⟨[.v (.int .i64 3)], 3⟩), (68, .r [.v (.int .i64 1), .v (.int .i64 2), .v (.int .i64 3)] 3 1), (92, .b ⟨Sd.cs s, 34⟩), (93, .b ⟨Sd.cs r, 34⟩), (94, .b ⟨Sg.cs g A c, 29⟩)]
def c_rwhy_up3 (s : Sd) (r : Sd) (g : Sg) (A : Option Addr) (c : Nat) : List (Nat × Ent) := [(30, .b ⟨[.v (.int .i64 1)], 3⟩), (31, .d), (45, .b ⟨[.v (.int .i64 2)], 3⟩), (46, .d), (86, .b ⟨[.v (.int .i64 4)], 3⟩), (87, .r [.v (.int .i64 1), .v (.int .i64 2), .v (.int .i64 4)] 3 1), (92, .b ⟨Sd.cs s, 34⟩), (93, .b ⟨Sd.cs r, 34⟩), (94, .b ⟨Sg.cs g A c, 29⟩)]
def c_rwhy_up4 (s : Sd) (r : Sd) (g : Sg) (A : Option Addr) (c : Nat) : List (Nat × Ent) := [(30, .b ⟨[.v (.int .i64 1)], 3⟩), (31, .d), (45, .b ⟨[.v (.int .i64 2)], 3⟩), (46, .r [.v (.int .i64 1), .v (.int .i64 2)] 3 1), (92, .b ⟨Sd.cs s, 34⟩), (93, .b ⟨Sd.cs r, 34⟩), (94, .b ⟨Sg.cs g A c, 29⟩)]
def c_rwhy_up5 (s : Sd) (r : Sd) (g : Sg) (A : Option Addr) (c : Nat) : List (Nat × Ent) := [(30, .b ⟨[.v (.int .i64 1)], 3⟩), (31, .d), (67, .b ⟨[.v (.int .i64 3)], 3⟩), (68, .d), (86, .b ⟨[.v (.int .i64 4)], 3⟩), (87, .r [.v (.int .i64 1), .v (.int .i64 3), .v (.int .i64 4)] 3 1), (92, .b ⟨Sd.cs s, 34⟩), (93, .b ⟨Sd.cs r, 34⟩), (94, .b ⟨Sg.cs g A c, 29⟩)]
def c_rwhy_up6 (s : Sd) (r : Sd) (g : Sg) (A : Option Addr) (c : Nat) : List (Nat × Ent) := [(30, .b ⟨[.v (.int .i64 1)], 3⟩), (31, .d), (67, .b ⟨[.v (.int .i64 3)], 3⟩), (68, .r [.v (.int .i64 1), .v (.int .i64 3)] 3 1), (92, .b ⟨Sd.cs s, 34⟩), (93, .b ⟨Sd.cs r, 34⟩), (94, .b ⟨Sg.cs g A c, 29⟩)]
def c_rwhy_up7 (s : Sd) (r : Sd) (g : Sg) (A : Option Addr) (c : Nat) : List (Nat × Ent) := [(30, .b ⟨[.v (.int .i64 1)], 3⟩), (31, .d), (86, .b ⟨[.v (.int .i64 4)], 3⟩), (87, .r [.v (.int .i64 1), .v (.int .i64 4)] 3 1), (92, .b ⟨Sd.cs s, 34⟩), (93, .b ⟨Sd.cs r, 34⟩), (94, .b ⟨Sg.cs g A c, 29⟩)]
def c_rwhy_up8 (s : Sd) (r : Sd) (g : Sg) (A : Option Addr) (c : Nat) : List (Nat × Ent) := [(30, .b ⟨[.v (.int .i64 1)], 3⟩), (31, .r [.v (.int .i64 1)] 3 1), (92, .b ⟨Sd.cs s, 34⟩), (93, .b ⟨Sd.cs r, 34⟩), (94, .b ⟨Sg.cs g A c, 29⟩)]
def c_rwhy_up9 (s : Sd) (r : Sd) (g : Sg) (A : Option Addr) (c : Nat) : List (Nat × Ent) := [(45, .b ⟨[.v (.int .i64 2)], 3⟩), (46, .d), (67, .b ⟨[.v (.int .i64 3)], 3⟩), (68, .d), (86, .b ⟨[.v (.int .i64 4)], 3⟩), (87, .r [.v (.int .i64 2), .v (.int .i64 3), .v (.int .i64 4)] 3 1), (92, .b ⟨Sd.cs s, 34⟩), (93, .b ⟨Sd.cs r, 34⟩), (94, .b ⟨Sg.cs g A c, 29⟩)]
def c_rwhy_up10 (s : Sd) (r : Sd) (g : Sg) (A : Option Addr) (c : Nat) : List (Nat × Ent) := [(45, .b ⟨[.v (.int .i64 2)], 3⟩), (46, .d), (67, .b ⟨[.v (.int .i64 3)], 3⟩), (68, .r [.v (.int .i64 2), .v (.int .i64 3)] 3 1), (92, .b ⟨Sd.cs s, 34⟩), (93, .b ⟨Sd.cs r, 34⟩), (94, .b ⟨Sg.cs g A c, 29⟩)]
def c_rwhy_up11 (s : Sd) (r : Sd) (g : Sg) (A : Option Addr) (c : Nat) : List (Nat × Ent) := [(45, .b ⟨[.v (.int .i64 2)], 3⟩), (46, .d), (86, .b ⟨[.v (.int .i64 4)], 3⟩), (87, .r [.v (.int .i64 2), .v (.int .i64 4)] 3 1), (92, .b ⟨Sd.cs s, 34⟩), (93, .b ⟨Sd.cs r, 34⟩), (94, .b ⟨Sg.cs g A c, 29⟩)]
def c_rwhy_up12 (s : Sd) (r : Sd) (g : Sg) (A : Option Addr) (c : Nat) : List (Nat × Ent) := [(45, .b ⟨[.v (.int .i64 2)], 3⟩), (46, .r [.v (.int .i64 2)] 3 1), (92, .b ⟨Sd.cs s, 34⟩), (93, .b ⟨Sd.cs r, 34⟩), (94, .b ⟨Sg.cs g A c, 29⟩)]
def c_rwhy_up13 (s : Sd) (r : Sd) (g : Sg) (A : Option Addr) (c : Nat) : List (Nat × Ent) := [(67, .b ⟨[.v (.int .i64 3)], 3⟩), (68, .d), (86, .b ⟨[.v (.int .i64 4)], 3⟩), (87, .r [.v (.int .i64 3), .v (.int .i64 4)] 3 1), (92, .b ⟨Sd.cs s, 34⟩), (93, .b ⟨Sd.cs r, 34⟩), (94, .b ⟨Sg.cs g A c, 29⟩)]
def c_rwhy_up14 (s : Sd) (r : Sd) (g : Sg) (A : Option Addr) (c : Nat) : List (Nat × Ent) := [(67, .b ⟨[.v (.int .i64 3)], 3⟩), (68, .r [.v (.int .i64 3)] 3 1), (92, .b ⟨Sd.cs s, 34⟩), (93, .b ⟨Sd.cs r, 34⟩), (94, .b ⟨Sg.cs g A c, 29⟩)]
def c_rwhy_up15 (s : Sd) (r : Sd) (g : Sg) (A : Option Addr) (c : Nat) : List (Nat × Ent) := [(86, .b ⟨[.v (.int .i64 4)], 3⟩), (87, .r [.v (.int .i64 4)] 3 1), (92, .b ⟨Sd.cs s, 34⟩), (93, .b ⟨Sd.cs r, 34⟩), (94, .b ⟨Sg.cs g A c, 29⟩)]
def c_rwhy_up16 (s : Sd) (r : Sd) (g : Sg) (A : Option Addr) (c : Nat) : List (Nat × Ent) := [(92, .b ⟨Sd.cs s, 34⟩), (93, .b ⟨Sd.cs r, 34⟩), (94, .b ⟨Sg.cs g A c, 29⟩)]
set_option maxRecDepth 100000 in
theorem c_rwhy_s0 {w : World} (s : Sd) (r : Sd) (g : Sg)  {A : Option Addr} {c : Nat} (ok : g.Ok A c w) (hd : g.data.size ≤ 1000000) (hbl : g.blocks.length ≤ 1000000) (wf_s : s.Wf) (wf_r : r.Wf) (wf_g : g.Wf) (k0 : ((Go.bits .and .i64 g.flags 16) != 0) = true) (k1 : (s.on) = true) (k2 : (r.on) = true) (k3 : (decide ((G s.max (EndS g)) > 1)) = true) (k4 : (decide ((G (EndS g) s.fin) > (IntKind.i64.wrap (r.win + 1)))) = true) (k5 : (decide (0 < G r.fin g.ack)) = true) (k6 : (decide ((G g.ack r.fin) > (IntKind.i64.wrap (s.win + 1)))) = true) : PCalls Try.prog 19 [.av (.one (.v s.V)), .av (.one (.v r.V)), .av (.one (.v (g.V A c)))] (c_rwhy_hp0 s r g A c) (upsB (c_rwhy_hp0 s r g A c) (c_rwhy_up1 s r g A c)) (.av (.one (.u 87 4))) (w, []) :=
  pcalls_of_check rfl Try.func19 1000000 [.av (.one (.v s.V)), .av (.one (.v r.V)), .av (.one (.v (g.V A c)))] (c_rwhy_hp0 s r g A c) [(.cast 13 (.bool ((Go.bits .and .i64 g.flags 16) != 0)) (.bool true)),
    (.call 24 [g.V A c] (.int .u32 (EndS g))),
    (.cast 17 (.bool s.on) (.bool true)),
    (.cast 20 (.bool r.on) (.bool true)),
    (.call 23 [.int .u32 s.max, .int .u32 (EndS g)] (.int .i64 (G s.max (EndS g)))),
    (.cast 27 (.bool (decide ((G s.max (EndS g)) > 1))) (.bool true)),
    (.sched c_rwhy_T0 c_rwhy_B0 [(92, 0), (92, 1), (93, 5)] [] (.s 0 0 (.s 1 1 (.s 0 2 (.s 0 3 (.s 0 4 (.s 0 7 (.s 1 5 (.s 1 8 (.s 0 9 (.s 2 6 (.s 0 10 (.s 0 11 .e))))))))))))),
    (.cast 33 (.bool s.on) (.bool true)),
    (.call 23 [.int .u32 (EndS g), .int .u32 s.fin] (.int .i64 (G (EndS g) s.fin))),
    (.cast 42 (.bool (decide ((G (EndS g) s.fin) > (IntKind.i64.wrap (r.win + 1))))) (.bool true)),
    (.sched c_rwhy_T1 c_rwhy_B1 [(93, 0), (93, 1), (94, 3)] [] (.s 0 0 (.s 1 1 (.s 0 2 (.s 0 3 (.s 0 4 (.s 0 5 (.s 0 6 (.s 0 8 (.s 1 7 (.s 1 9 (.s 2 10 (.s 0 11 (.s 0 12 (.s 0 13 (.s 0 14 (.s 0 15 (.s 0 16 (.s 0 17 (.s 0 18 .e)))))))))))))))))))),
    (.cast 48 (.bool r.on) (.bool true)),
    (.call 38 [.int .u32 r.fin, .int .u32 g.ack] (.bool true)),
    (.sched c_rwhy_T2 c_rwhy_B2 [(92, 5), (93, 0), (93, 1), (94, 3)] [] (.s 0 0 (.s 1 1 (.s 0 2 (.s 0 3 (.s 0 4 (.s 0 5 (.s 0 6 (.s 0 8 (.s 0 11 (.s 1 7 (.s 1 9 (.s 1 12 (.s 0 13 (.s 2 10 (.s 0 14 (.s 0 15 .e))))))))))))))))),
    (.cast 70 (.bool r.on) (.bool true)),
    (.call 23 [.int .u32 g.ack, .int .u32 r.fin] (.int .i64 (G g.ack r.fin))),
    (.cast 83 (.bool (decide ((G g.ack r.fin) > (IntKind.i64.wrap (s.win + 1))))) (.bool true))] (c_rwhy_up1 s r g A c) (by kernel_rfl) (by kernel_rfl)
    (by exact ⟨congrArg Value.bool k0, ⟨ent Try.func24 rfl rfl, fun w' hw => c_rend (s := g) (A := A) (c := c) wf_g (ok.keep hw) hd⟩, congrArg Value.bool k1, congrArg Value.bool k2, ⟨ent Try.func23 rfl rfl, fun w' hw => c_rgap wf_s.max (EndS_bd _)⟩, congrArg Value.bool k3, trivial, congrArg Value.bool k1, ⟨ent Try.func23 rfl rfl, fun w' hw => c_rgap (EndS_bd _) wf_s.fin⟩, congrArg Value.bool k4, trivial, congrArg Value.bool k2, ⟨ent Try.func38 rfl rfl, fun w' hw => ret_eq (congrArg Value.bool k5) ((fun w' hw => c_rbefore wf_r.fin wf_g.ack) w' hw)⟩, trivial, congrArg Value.bool k2, ⟨ent Try.func23 rfl rfl, fun w' hw => c_rgap wf_g.ack wf_r.fin⟩, congrArg Value.bool k6, trivial⟩)
set_option maxRecDepth 100000 in
theorem c_rwhy_0 {w : World} (s : Sd) (r : Sd) (g : Sg)  {A : Option Addr} {c : Nat} (ok : g.Ok A c w) (hd : g.data.size ≤ 1000000) (hbl : g.blocks.length ≤ 1000000) (wf_s : s.Wf) (wf_r : r.Wf) (wf_g : g.Wf) (h0 : (s.on) = true) (h1 : (r.on) = true) (h2 : (decide ((G s.max (EndS g)) > 1)) = true) (h3 : (decide ((G (EndS g) s.fin) > (IntKind.i64.wrap (r.win + 1)))) = true) (h4 : ((Go.bits .and .i64 g.flags 16) != 0) = true) (h5 : (decide (0 < G r.fin g.ack)) = true) (h6 : (decide ((G g.ack r.fin) > (IntKind.i64.wrap (s.win + 1)))) = true) : Calls Try.prog 15 #[s.V, r.V, g.V A c] w fun e w' => e = .returned (.int .i64 1) ∧ Below w.heap.size w w' :=
  calls_of_check rfl Try.func15 1000000 [s.V, r.V, g.V A c] [(.callp 19 [.av (.one (.v s.V)), .av (.one (.v r.V)), .av (.one (.v (g.V A c)))] (c_rwhy_hp0 s r g A c) (c_rwhy_up1 s r g A c) (.av (.one (.u 87 4))))] (by kernel_rfl) (by kernel_rfl)
    (by exact ⟨⟨ent Try.func19 rfl rfl, c_rwhy_s0 s r g ok hd hbl wf_s wf_r wf_g h4 h0 h1 h2 h3 h5 h6⟩, trivial⟩)
set_option maxRecDepth 100000 in
theorem c_rwhy_s1 {w : World} (s : Sd) (r : Sd) (g : Sg)  {A : Option Addr} {c : Nat} (ok : g.Ok A c w) (hd : g.data.size ≤ 1000000) (hbl : g.blocks.length ≤ 1000000) (wf_s : s.Wf) (wf_r : r.Wf) (wf_g : g.Wf) (k0 : ((Go.bits .and .i64 g.flags 16) != 0) = true) (k1 : (s.on) = true) (k2 : (r.on) = true) (k3 : (decide ((G s.max (EndS g)) > 1)) = true) (k4 : (decide ((G (EndS g) s.fin) > (IntKind.i64.wrap (r.win + 1)))) = true) (k5 : (decide (0 < G r.fin g.ack)) = true) (k6 : (decide ((G g.ack r.fin) > (IntKind.i64.wrap (s.win + 1)))) = false) : PCalls Try.prog 19 [.av (.one (.v s.V)), .av (.one (.v r.V)), .av (.one (.v (g.V A c)))] (c_rwhy_hp0 s r g A c) (upsB (c_rwhy_hp0 s r g A c) (c_rwhy_up2 s r g A c)) (.av (.one (.u 68 3))) (w, []) :=
  pcalls_of_check rfl Try.func19 1000000 [.av (.one (.v s.V)), .av (.one (.v r.V)), .av (.one (.v (g.V A c)))] (c_rwhy_hp0 s r g A c) [(.cast 13 (.bool ((Go.bits .and .i64 g.flags 16) != 0)) (.bool true)),
    (.call 24 [g.V A c] (.int .u32 (EndS g))),
    (.cast 17 (.bool s.on) (.bool true)),
    (.cast 20 (.bool r.on) (.bool true)),
    (.call 23 [.int .u32 s.max, .int .u32 (EndS g)] (.int .i64 (G s.max (EndS g)))),
    (.cast 27 (.bool (decide ((G s.max (EndS g)) > 1))) (.bool true)),
    (.sched c_rwhy_T0 c_rwhy_B0 [(92, 0), (92, 1), (93, 5)] [] (.s 0 0 (.s 1 1 (.s 0 2 (.s 0 3 (.s 0 4 (.s 0 7 (.s 1 5 (.s 1 8 (.s 0 9 (.s 2 6 (.s 0 10 (.s 0 11 .e))))))))))))),
    (.cast 33 (.bool s.on) (.bool true)),
    (.call 23 [.int .u32 (EndS g), .int .u32 s.fin] (.int .i64 (G (EndS g) s.fin))),
    (.cast 42 (.bool (decide ((G (EndS g) s.fin) > (IntKind.i64.wrap (r.win + 1))))) (.bool true)),
    (.sched c_rwhy_T1 c_rwhy_B1 [(93, 0), (93, 1), (94, 3)] [] (.s 0 0 (.s 1 1 (.s 0 2 (.s 0 3 (.s 0 4 (.s 0 5 (.s 0 6 (.s 0 8 (.s 1 7 (.s 1 9 (.s 2 10 (.s 0 11 (.s 0 12 (.s 0 13 (.s 0 14 (.s 0 15 (.s 0 16 (.s 0 17 (.s 0 18 .e)))))))))))))))))))),
    (.cast 48 (.bool r.on) (.bool true)),
    (.call 38 [.int .u32 r.fin, .int .u32 g.ack] (.bool true)),
    (.sched c_rwhy_T2 c_rwhy_B2 [(92, 5), (93, 0), (93, 1), (94, 3)] [] (.s 0 0 (.s 1 1 (.s 0 2 (.s 0 3 (.s 0 4 (.s 0 5 (.s 0 6 (.s 0 8 (.s 0 11 (.s 1 7 (.s 1 9 (.s 1 12 (.s 0 13 (.s 2 10 (.s 0 14 (.s 0 15 .e))))))))))))))))),
    (.cast 70 (.bool r.on) (.bool true)),
    (.call 23 [.int .u32 g.ack, .int .u32 r.fin] (.int .i64 (G g.ack r.fin))),
    (.cast 83 (.bool (decide ((G g.ack r.fin) > (IntKind.i64.wrap (s.win + 1))))) (.bool false))] (c_rwhy_up2 s r g A c) (by kernel_rfl) (by kernel_rfl)
    (by exact ⟨congrArg Value.bool k0, ⟨ent Try.func24 rfl rfl, fun w' hw => c_rend (s := g) (A := A) (c := c) wf_g (ok.keep hw) hd⟩, congrArg Value.bool k1, congrArg Value.bool k2, ⟨ent Try.func23 rfl rfl, fun w' hw => c_rgap wf_s.max (EndS_bd _)⟩, congrArg Value.bool k3, trivial, congrArg Value.bool k1, ⟨ent Try.func23 rfl rfl, fun w' hw => c_rgap (EndS_bd _) wf_s.fin⟩, congrArg Value.bool k4, trivial, congrArg Value.bool k2, ⟨ent Try.func38 rfl rfl, fun w' hw => ret_eq (congrArg Value.bool k5) ((fun w' hw => c_rbefore wf_r.fin wf_g.ack) w' hw)⟩, trivial, congrArg Value.bool k2, ⟨ent Try.func23 rfl rfl, fun w' hw => c_rgap wf_g.ack wf_r.fin⟩, congrArg Value.bool k6, trivial⟩)
set_option maxRecDepth 100000 in
theorem c_rwhy_1 {w : World} (s : Sd) (r : Sd) (g : Sg)  {A : Option Addr} {c : Nat} (ok : g.Ok A c w) (hd : g.data.size ≤ 1000000) (hbl : g.blocks.length ≤ 1000000) (wf_s : s.Wf) (wf_r : r.Wf) (wf_g : g.Wf) (h0 : (s.on) = true) (h1 : (r.on) = true) (h2 : (decide ((G s.max (EndS g)) > 1)) = true) (h3 : (decide ((G (EndS g) s.fin) > (IntKind.i64.wrap (r.win + 1)))) = true) (h4 : ((Go.bits .and .i64 g.flags 16) != 0) = true) (h5 : (decide (0 < G r.fin g.ack)) = true) (h6 : (decide ((G g.ack r.fin) > (IntKind.i64.wrap (s.win + 1)))) = false) : Calls Try.prog 15 #[s.V, r.V, g.V A c] w fun e w' => e = .returned (.int .i64 1) ∧ Below w.heap.size w w' :=
  calls_of_check rfl Try.func15 1000000 [s.V, r.V, g.V A c] [(.callp 19 [.av (.one (.v s.V)), .av (.one (.v r.V)), .av (.one (.v (g.V A c)))] (c_rwhy_hp0 s r g A c) (c_rwhy_up2 s r g A c) (.av (.one (.u 68 3))))] (by kernel_rfl) (by kernel_rfl)
    (by exact ⟨⟨ent Try.func19 rfl rfl, c_rwhy_s1 s r g ok hd hbl wf_s wf_r wf_g h4 h0 h1 h2 h3 h5 h6⟩, trivial⟩)
set_option maxRecDepth 100000 in
theorem c_rwhy_s2 {w : World} (s : Sd) (r : Sd) (g : Sg)  {A : Option Addr} {c : Nat} (ok : g.Ok A c w) (hd : g.data.size ≤ 1000000) (hbl : g.blocks.length ≤ 1000000) (wf_s : s.Wf) (wf_r : r.Wf) (wf_g : g.Wf) (k0 : ((Go.bits .and .i64 g.flags 16) != 0) = true) (k1 : (s.on) = true) (k2 : (r.on) = true) (k3 : (decide ((G s.max (EndS g)) > 1)) = true) (k4 : (decide ((G (EndS g) s.fin) > (IntKind.i64.wrap (r.win + 1)))) = true) (k5 : (decide (0 < G r.fin g.ack)) = false) (k6 : (decide (0 < G r.fin (Last g))) = true) (k7 : (decide ((G g.ack r.fin) > (IntKind.i64.wrap (s.win + 1)))) = true) : PCalls Try.prog 19 [.av (.one (.v s.V)), .av (.one (.v r.V)), .av (.one (.v (g.V A c)))] (c_rwhy_hp0 s r g A c) (upsB (c_rwhy_hp0 s r g A c) (c_rwhy_up1 s r g A c)) (.av (.one (.u 87 4))) (w, []) :=
  pcalls_of_check rfl Try.func19 1000000 [.av (.one (.v s.V)), .av (.one (.v r.V)), .av (.one (.v (g.V A c)))] (c_rwhy_hp0 s r g A c) [(.cast 13 (.bool ((Go.bits .and .i64 g.flags 16) != 0)) (.bool true)),
    (.call 24 [g.V A c] (.int .u32 (EndS g))),
    (.cast 17 (.bool s.on) (.bool true)),
    (.cast 20 (.bool r.on) (.bool true)),
    (.call 23 [.int .u32 s.max, .int .u32 (EndS g)] (.int .i64 (G s.max (EndS g)))),
    (.cast 27 (.bool (decide ((G s.max (EndS g)) > 1))) (.bool true)),
    (.sched c_rwhy_T0 c_rwhy_B0 [(92, 0), (92, 1), (93, 5)] [] (.s 0 0 (.s 1 1 (.s 0 2 (.s 0 3 (.s 0 4 (.s 0 7 (.s 1 5 (.s 1 8 (.s 0 9 (.s 2 6 (.s 0 10 (.s 0 11 .e))))))))))))),
    (.cast 33 (.bool s.on) (.bool true)),
    (.call 23 [.int .u32 (EndS g), .int .u32 s.fin] (.int .i64 (G (EndS g) s.fin))),
    (.cast 42 (.bool (decide ((G (EndS g) s.fin) > (IntKind.i64.wrap (r.win + 1))))) (.bool true)),
    (.sched c_rwhy_T1 c_rwhy_B1 [(93, 0), (93, 1), (94, 0), (94, 1), (94, 2), (94, 3), (94, 4), (94, 5), (94, 6), (94, 7), (94, 8), (94, 9), (94, 10), (94, 11), (94, 12), (94, 13), (94, 14)] [] (.s 0 0 (.s 1 1 (.s 0 2 (.s 0 3 (.s 0 4 (.s 0 5 (.s 0 6 (.s 0 8 (.s 1 7 (.s 1 9 (.s 2 10 (.s 0 11 (.s 0 12 (.s 1 13 (.s 1 14 (.s 2 15 (.s 2 16 (.s 0 17 (.s 0 18 .e)))))))))))))))))))),
    (.cast 48 (.bool r.on) (.bool true)),
    (.call 38 [.int .u32 r.fin, .int .u32 g.ack] (.bool false)),
    (.call 42 [g.V A c] (.int .u32 (Last g))),
    (.call 38 [.int .u32 r.fin, .int .u32 (Last g)] (.bool true)),
    (.sched c_rwhy_T2 c_rwhy_B2 [(92, 5), (93, 0), (93, 1), (94, 3)] [] (.s 0 0 (.s 1 1 (.s 0 2 (.s 0 3 (.s 0 4 (.s 0 5 (.s 0 6 (.s 0 8 (.s 0 11 (.s 1 7 (.s 1 9 (.s 1 12 (.s 0 13 (.s 2 10 (.s 0 14 (.s 0 15 .e))))))))))))))))),
    (.cast 70 (.bool r.on) (.bool true)),
    (.call 23 [.int .u32 g.ack, .int .u32 r.fin] (.int .i64 (G g.ack r.fin))),
    (.cast 83 (.bool (decide ((G g.ack r.fin) > (IntKind.i64.wrap (s.win + 1))))) (.bool true))] (c_rwhy_up1 s r g A c) (by kernel_rfl) (by kernel_rfl)
    (by exact ⟨congrArg Value.bool k0, ⟨ent Try.func24 rfl rfl, fun w' hw => c_rend (s := g) (A := A) (c := c) wf_g (ok.keep hw) hd⟩, congrArg Value.bool k1, congrArg Value.bool k2, ⟨ent Try.func23 rfl rfl, fun w' hw => c_rgap wf_s.max (EndS_bd _)⟩, congrArg Value.bool k3, trivial, congrArg Value.bool k1, ⟨ent Try.func23 rfl rfl, fun w' hw => c_rgap (EndS_bd _) wf_s.fin⟩, congrArg Value.bool k4, trivial, congrArg Value.bool k2, ⟨ent Try.func38 rfl rfl, fun w' hw => ret_eq (congrArg Value.bool k5) ((fun w' hw => c_rbefore wf_r.fin wf_g.ack) w' hw)⟩, ⟨ent Try.func42 rfl rfl, fun w' hw => c_rlast (s := g) (A := A) (c := c) wf_g (ok.keep hw) hbl⟩, ⟨ent Try.func38 rfl rfl, fun w' hw => ret_eq (congrArg Value.bool k6) ((fun w' hw => c_rbefore wf_r.fin (Last_bd _ wf_g)) w' hw)⟩, trivial, congrArg Value.bool k2, ⟨ent Try.func23 rfl rfl, fun w' hw => c_rgap wf_g.ack wf_r.fin⟩, congrArg Value.bool k7, trivial⟩)
set_option maxRecDepth 100000 in
theorem c_rwhy_2 {w : World} (s : Sd) (r : Sd) (g : Sg)  {A : Option Addr} {c : Nat} (ok : g.Ok A c w) (hd : g.data.size ≤ 1000000) (hbl : g.blocks.length ≤ 1000000) (wf_s : s.Wf) (wf_r : r.Wf) (wf_g : g.Wf) (h0 : (s.on) = true) (h1 : (r.on) = true) (h2 : (decide ((G s.max (EndS g)) > 1)) = true) (h3 : (decide ((G (EndS g) s.fin) > (IntKind.i64.wrap (r.win + 1)))) = true) (h4 : ((Go.bits .and .i64 g.flags 16) != 0) = true) (h5 : (decide (0 < G r.fin g.ack)) = false) (h6 : (decide (0 < G r.fin (Last g))) = true) (h7 : (decide ((G g.ack r.fin) > (IntKind.i64.wrap (s.win + 1)))) = true) : Calls Try.prog 15 #[s.V, r.V, g.V A c] w fun e w' => e = .returned (.int .i64 1) ∧ Below w.heap.size w w' :=
  calls_of_check rfl Try.func15 1000000 [s.V, r.V, g.V A c] [(.callp 19 [.av (.one (.v s.V)), .av (.one (.v r.V)), .av (.one (.v (g.V A c)))] (c_rwhy_hp0 s r g A c) (c_rwhy_up1 s r g A c) (.av (.one (.u 87 4))))] (by kernel_rfl) (by kernel_rfl)
    (by exact ⟨⟨ent Try.func19 rfl rfl, c_rwhy_s2 s r g ok hd hbl wf_s wf_r wf_g h4 h0 h1 h2 h3 h5 h6 h7⟩, trivial⟩)
set_option maxRecDepth 100000 in
theorem c_rwhy_s3 {w : World} (s : Sd) (r : Sd) (g : Sg)  {A : Option Addr} {c : Nat} (ok : g.Ok A c w) (hd : g.data.size ≤ 1000000) (hbl : g.blocks.length ≤ 1000000) (wf_s : s.Wf) (wf_r : r.Wf) (wf_g : g.Wf) (k0 : ((Go.bits .and .i64 g.flags 16) != 0) = true) (k1 : (s.on) = true) (k2 : (r.on) = true) (k3 : (decide ((G s.max (EndS g)) > 1)) = true) (k4 : (decide ((G (EndS g) s.fin) > (IntKind.i64.wrap (r.win + 1)))) = true) (k5 : (decide (0 < G r.fin g.ack)) = false) (k6 : (decide (0 < G r.fin (Last g))) = true) (k7 : (decide ((G g.ack r.fin) > (IntKind.i64.wrap (s.win + 1)))) = false) : PCalls Try.prog 19 [.av (.one (.v s.V)), .av (.one (.v r.V)), .av (.one (.v (g.V A c)))] (c_rwhy_hp0 s r g A c) (upsB (c_rwhy_hp0 s r g A c) (c_rwhy_up2 s r g A c)) (.av (.one (.u 68 3))) (w, []) :=
  pcalls_of_check rfl Try.func19 1000000 [.av (.one (.v s.V)), .av (.one (.v r.V)), .av (.one (.v (g.V A c)))] (c_rwhy_hp0 s r g A c) [(.cast 13 (.bool ((Go.bits .and .i64 g.flags 16) != 0)) (.bool true)),
    (.call 24 [g.V A c] (.int .u32 (EndS g))),
    (.cast 17 (.bool s.on) (.bool true)),
    (.cast 20 (.bool r.on) (.bool true)),
    (.call 23 [.int .u32 s.max, .int .u32 (EndS g)] (.int .i64 (G s.max (EndS g)))),
    (.cast 27 (.bool (decide ((G s.max (EndS g)) > 1))) (.bool true)),
    (.sched c_rwhy_T0 c_rwhy_B0 [(92, 0), (92, 1), (93, 5)] [] (.s 0 0 (.s 1 1 (.s 0 2 (.s 0 3 (.s 0 4 (.s 0 7 (.s 1 5 (.s 1 8 (.s 0 9 (.s 2 6 (.s 0 10 (.s 0 11 .e))))))))))))),
    (.cast 33 (.bool s.on) (.bool true)),
    (.call 23 [.int .u32 (EndS g), .int .u32 s.fin] (.int .i64 (G (EndS g) s.fin))),
    (.cast 42 (.bool (decide ((G (EndS g) s.fin) > (IntKind.i64.wrap (r.win + 1))))) (.bool true)),
    (.sched c_rwhy_T1 c_rwhy_B1 [(93, 0), (93, 1), (94, 0), (94, 1), (94, 2), (94, 3), (94, 4), (94, 5), (94, 6), (94, 7), (94, 8), (94, 9), (94, 10), (94, 11), (94, 12), (94, 13), (94, 14)] [] (.s 0 0 (.s 1 1 (.s 0 2 (.s 0 3 (.s 0 4 (.s 0 5 (.s 0 6 (.s 0 8 (.s 1 7 (.s 1 9 (.s 2 10 (.s 0 11 (.s 0 12 (.s 1 13 (.s 1 14 (.s 2 15 (.s 2 16 (.s 0 17 (.s 0 18 .e)))))))))))))))))))),
    (.cast 48 (.bool r.on) (.bool true)),
    (.call 38 [.int .u32 r.fin, .int .u32 g.ack] (.bool false)),
    (.call 42 [g.V A c] (.int .u32 (Last g))),
    (.call 38 [.int .u32 r.fin, .int .u32 (Last g)] (.bool true)),
    (.sched c_rwhy_T2 c_rwhy_B2 [(92, 5), (93, 0), (93, 1), (94, 3)] [] (.s 0 0 (.s 1 1 (.s 0 2 (.s 0 3 (.s 0 4 (.s 0 5 (.s 0 6 (.s 0 8 (.s 0 11 (.s 1 7 (.s 1 9 (.s 1 12 (.s 0 13 (.s 2 10 (.s 0 14 (.s 0 15 .e))))))))))))))))),
    (.cast 70 (.bool r.on) (.bool true)),
    (.call 23 [.int .u32 g.ack, .int .u32 r.fin] (.int .i64 (G g.ack r.fin))),
    (.cast 83 (.bool (decide ((G g.ack r.fin) > (IntKind.i64.wrap (s.win + 1))))) (.bool false))] (c_rwhy_up2 s r g A c) (by kernel_rfl) (by kernel_rfl)
    (by exact ⟨congrArg Value.bool k0, ⟨ent Try.func24 rfl rfl, fun w' hw => c_rend (s := g) (A := A) (c := c) wf_g (ok.keep hw) hd⟩, congrArg Value.bool k1, congrArg Value.bool k2, ⟨ent Try.func23 rfl rfl, fun w' hw => c_rgap wf_s.max (EndS_bd _)⟩, congrArg Value.bool k3, trivial, congrArg Value.bool k1, ⟨ent Try.func23 rfl rfl, fun w' hw => c_rgap (EndS_bd _) wf_s.fin⟩, congrArg Value.bool k4, trivial, congrArg Value.bool k2, ⟨ent Try.func38 rfl rfl, fun w' hw => ret_eq (congrArg Value.bool k5) ((fun w' hw => c_rbefore wf_r.fin wf_g.ack) w' hw)⟩, ⟨ent Try.func42 rfl rfl, fun w' hw => c_rlast (s := g) (A := A) (c := c) wf_g (ok.keep hw) hbl⟩, ⟨ent Try.func38 rfl rfl, fun w' hw => ret_eq (congrArg Value.bool k6) ((fun w' hw => c_rbefore wf_r.fin (Last_bd _ wf_g)) w' hw)⟩, trivial, congrArg Value.bool k2, ⟨ent Try.func23 rfl rfl, fun w' hw => c_rgap wf_g.ack wf_r.fin⟩, congrArg Value.bool k7, trivial⟩)
set_option maxRecDepth 100000 in
theorem c_rwhy_3 {w : World} (s : Sd) (r : Sd) (g : Sg)  {A : Option Addr} {c : Nat} (ok : g.Ok A c w) (hd : g.data.size ≤ 1000000) (hbl : g.blocks.length ≤ 1000000) (wf_s : s.Wf) (wf_r : r.Wf) (wf_g : g.Wf) (h0 : (s.on) = true) (h1 : (r.on) = true) (h2 : (decide ((G s.max (EndS g)) > 1)) = true) (h3 : (decide ((G (EndS g) s.fin) > (IntKind.i64.wrap (r.win + 1)))) = true) (h4 : ((Go.bits .and .i64 g.flags 16) != 0) = true) (h5 : (decide (0 < G r.fin g.ack)) = false) (h6 : (decide (0 < G r.fin (Last g))) = true) (h7 : (decide ((G g.ack r.fin) > (IntKind.i64.wrap (s.win + 1)))) = false) : Calls Try.prog 15 #[s.V, r.V, g.V A c] w fun e w' => e = .returned (.int .i64 1) ∧ Below w.heap.size w w' :=
  calls_of_check rfl Try.func15 1000000 [s.V, r.V, g.V A c] [(.callp 19 [.av (.one (.v s.V)), .av (.one (.v r.V)), .av (.one (.v (g.V A c)))] (c_rwhy_hp0 s r g A c) (c_rwhy_up2 s r g A c) (.av (.one (.u 68 3))))] (by kernel_rfl) (by kernel_rfl)
    (by exact ⟨⟨ent Try.func19 rfl rfl, c_rwhy_s3 s r g ok hd hbl wf_s wf_r wf_g h4 h0 h1 h2 h3 h5 h6 h7⟩, trivial⟩)
set_option maxRecDepth 100000 in
theorem c_rwhy_s4 {w : World} (s : Sd) (r : Sd) (g : Sg)  {A : Option Addr} {c : Nat} (ok : g.Ok A c w) (hd : g.data.size ≤ 1000000) (hbl : g.blocks.length ≤ 1000000) (wf_s : s.Wf) (wf_r : r.Wf) (wf_g : g.Wf) (k0 : ((Go.bits .and .i64 g.flags 16) != 0) = true) (k1 : (s.on) = true) (k2 : (r.on) = true) (k3 : (decide ((G s.max (EndS g)) > 1)) = true) (k4 : (decide ((G (EndS g) s.fin) > (IntKind.i64.wrap (r.win + 1)))) = true) (k5 : (decide (0 < G r.fin g.ack)) = false) (k6 : (decide (0 < G r.fin (Last g))) = false) (k7 : (decide ((G g.ack r.fin) > (IntKind.i64.wrap (s.win + 1)))) = true) : PCalls Try.prog 19 [.av (.one (.v s.V)), .av (.one (.v r.V)), .av (.one (.v (g.V A c)))] (c_rwhy_hp0 s r g A c) (upsB (c_rwhy_hp0 s r g A c) (c_rwhy_up3 s r g A c)) (.av (.one (.u 87 3))) (w, []) :=
  pcalls_of_check rfl Try.func19 1000000 [.av (.one (.v s.V)), .av (.one (.v r.V)), .av (.one (.v (g.V A c)))] (c_rwhy_hp0 s r g A c) [(.cast 13 (.bool ((Go.bits .and .i64 g.flags 16) != 0)) (.bool true)),
    (.call 24 [g.V A c] (.int .u32 (EndS g))),
    (.cast 17 (.bool s.on) (.bool true)),
    (.cast 20 (.bool r.on) (.bool true)),
    (.call 23 [.int .u32 s.max, .int .u32 (EndS g)] (.int .i64 (G s.max (EndS g)))),
    (.cast 27 (.bool (decide ((G s.max (EndS g)) > 1))) (.bool true)),
    (.sched c_rwhy_T0 c_rwhy_B0 [(92, 0), (92, 1), (93, 5)] [] (.s 0 0 (.s 1 1 (.s 0 2 (.s 0 3 (.s 0 4 (.s 0 7 (.s 1 5 (.s 1 8 (.s 0 9 (.s 2 6 (.s 0 10 (.s 0 11 .e))))))))))))),
    (.cast 33 (.bool s.on) (.bool true)),
    (.call 23 [.int .u32 (EndS g), .int .u32 s.fin] (.int .i64 (G (EndS g) s.fin))),
    (.cast 42 (.bool (decide ((G (EndS g) s.fin) > (IntKind.i64.wrap (r.win + 1))))) (.bool true)),
    (.sched c_rwhy_T1 c_rwhy_B1 [(93, 0), (93, 1), (94, 0), (94, 1), (94, 2), (94, 3), (94, 4), (94, 5), (94, 6), (94, 7), (94, 8), (94, 9), (94, 10), (94, 11), (94, 12), (94, 13), (94, 14)] [] (.s 0 0 (.s 1 1 (.s 0 2 (.s 0 3 (.s 0 4 (.s 0 5 (.s 0 6 (.s 0 8 (.s 1 7 (.s 1 9 (.s 2 10 (.s 0 11 (.s 0 12 (.s 1 13 (.s 1 14 (.s 2 15 (.s 2 16 (.s 0 17 (.s 0 18 .e)))))))))))))))))))),
    (.cast 48 (.bool r.on) (.bool true)),
    (.call 38 [.int .u32 r.fin, .int .u32 g.ack] (.bool false)),
    (.call 42 [g.V A c] (.int .u32 (Last g))),
    (.call 38 [.int .u32 r.fin, .int .u32 (Last g)] (.bool false)),
    (.sched c_rwhy_T2 c_rwhy_B2 [(92, 5), (93, 0), (93, 1), (94, 3)] [] (.s 0 0 (.s 1 1 (.s 0 2 (.s 0 3 (.s 0 4 (.s 0 5 (.s 0 6 (.s 0 8 (.s 0 11 (.s 1 7 (.s 1 9 (.s 1 12 (.s 0 13 (.s 2 10 (.s 0 14 (.s 0 15 .e))))))))))))))))),
    (.cast 70 (.bool r.on) (.bool true)),
    (.call 23 [.int .u32 g.ack, .int .u32 r.fin] (.int .i64 (G g.ack r.fin))),
    (.cast 83 (.bool (decide ((G g.ack r.fin) > (IntKind.i64.wrap (s.win + 1))))) (.bool true))] (c_rwhy_up3 s r g A c) (by kernel_rfl) (by kernel_rfl)
    (by exact ⟨congrArg Value.bool k0, ⟨ent Try.func24 rfl rfl, fun w' hw => c_rend (s := g) (A := A) (c := c) wf_g (ok.keep hw) hd⟩, congrArg Value.bool k1, congrArg Value.bool k2, ⟨ent Try.func23 rfl rfl, fun w' hw => c_rgap wf_s.max (EndS_bd _)⟩, congrArg Value.bool k3, trivial, congrArg Value.bool k1, ⟨ent Try.func23 rfl rfl, fun w' hw => c_rgap (EndS_bd _) wf_s.fin⟩, congrArg Value.bool k4, trivial, congrArg Value.bool k2, ⟨ent Try.func38 rfl rfl, fun w' hw => ret_eq (congrArg Value.bool k5) ((fun w' hw => c_rbefore wf_r.fin wf_g.ack) w' hw)⟩, ⟨ent Try.func42 rfl rfl, fun w' hw => c_rlast (s := g) (A := A) (c := c) wf_g (ok.keep hw) hbl⟩, ⟨ent Try.func38 rfl rfl, fun w' hw => ret_eq (congrArg Value.bool k6) ((fun w' hw => c_rbefore wf_r.fin (Last_bd _ wf_g)) w' hw)⟩, trivial, congrArg Value.bool k2, ⟨ent Try.func23 rfl rfl, fun w' hw => c_rgap wf_g.ack wf_r.fin⟩, congrArg Value.bool k7, trivial⟩)
set_option maxRecDepth 100000 in
theorem c_rwhy_4 {w : World} (s : Sd) (r : Sd) (g : Sg)  {A : Option Addr} {c : Nat} (ok : g.Ok A c w) (hd : g.data.size ≤ 1000000) (hbl : g.blocks.length ≤ 1000000) (wf_s : s.Wf) (wf_r : r.Wf) (wf_g : g.Wf) (h0 : (s.on) = true) (h1 : (r.on) = true) (h2 : (decide ((G s.max (EndS g)) > 1)) = true) (h3 : (decide ((G (EndS g) s.fin) > (IntKind.i64.wrap (r.win + 1)))) = true) (h4 : ((Go.bits .and .i64 g.flags 16) != 0) = true) (h5 : (decide (0 < G r.fin g.ack)) = false) (h6 : (decide (0 < G r.fin (Last g))) = false) (h7 : (decide ((G g.ack r.fin) > (IntKind.i64.wrap (s.win + 1)))) = true) : Calls Try.prog 15 #[s.V, r.V, g.V A c] w fun e w' => e = .returned (.int .i64 1) ∧ Below w.heap.size w w' :=
  calls_of_check rfl Try.func15 1000000 [s.V, r.V, g.V A c] [(.callp 19 [.av (.one (.v s.V)), .av (.one (.v r.V)), .av (.one (.v (g.V A c)))] (c_rwhy_hp0 s r g A c) (c_rwhy_up3 s r g A c) (.av (.one (.u 87 3))))] (by kernel_rfl) (by kernel_rfl)
    (by exact ⟨⟨ent Try.func19 rfl rfl, c_rwhy_s4 s r g ok hd hbl wf_s wf_r wf_g h4 h0 h1 h2 h3 h5 h6 h7⟩, trivial⟩)
set_option maxRecDepth 100000 in
theorem c_rwhy_s5 {w : World} (s : Sd) (r : Sd) (g : Sg)  {A : Option Addr} {c : Nat} (ok : g.Ok A c w) (hd : g.data.size ≤ 1000000) (hbl : g.blocks.length ≤ 1000000) (wf_s : s.Wf) (wf_r : r.Wf) (wf_g : g.Wf) (k0 : ((Go.bits .and .i64 g.flags 16) != 0) = true) (k1 : (s.on) = true) (k2 : (r.on) = true) (k3 : (decide ((G s.max (EndS g)) > 1)) = true) (k4 : (decide ((G (EndS g) s.fin) > (IntKind.i64.wrap (r.win + 1)))) = true) (k5 : (decide (0 < G r.fin g.ack)) = false) (k6 : (decide (0 < G r.fin (Last g))) = false) (k7 : (decide ((G g.ack r.fin) > (IntKind.i64.wrap (s.win + 1)))) = false) : PCalls Try.prog 19 [.av (.one (.v s.V)), .av (.one (.v r.V)), .av (.one (.v (g.V A c)))] (c_rwhy_hp0 s r g A c) (upsB (c_rwhy_hp0 s r g A c) (c_rwhy_up4 s r g A c)) (.av (.one (.u 46 2))) (w, []) :=
  pcalls_of_check rfl Try.func19 1000000 [.av (.one (.v s.V)), .av (.one (.v r.V)), .av (.one (.v (g.V A c)))] (c_rwhy_hp0 s r g A c) [(.cast 13 (.bool ((Go.bits .and .i64 g.flags 16) != 0)) (.bool true)),
    (.call 24 [g.V A c] (.int .u32 (EndS g))),
    (.cast 17 (.bool s.on) (.bool true)),
    (.cast 20 (.bool r.on) (.bool true)),
    (.call 23 [.int .u32 s.max, .int .u32 (EndS g)] (.int .i64 (G s.max (EndS g)))),
    (.cast 27 (.bool (decide ((G s.max (EndS g)) > 1))) (.bool true)),
    (.sched c_rwhy_T0 c_rwhy_B0 [(92, 0), (92, 1), (93, 5)] [] (.s 0 0 (.s 1 1 (.s 0 2 (.s 0 3 (.s 0 4 (.s 0 7 (.s 1 5 (.s 1 8 (.s 0 9 (.s 2 6 (.s 0 10 (.s 0 11 .e))))))))))))),
    (.cast 33 (.bool s.on) (.bool true)),
    (.call 23 [.int .u32 (EndS g), .int .u32 s.fin] (.int .i64 (G (EndS g) s.fin))),
    (.cast 42 (.bool (decide ((G (EndS g) s.fin) > (IntKind.i64.wrap (r.win + 1))))) (.bool true)),
    (.sched c_rwhy_T1 c_rwhy_B1 [(93, 0), (93, 1), (94, 0), (94, 1), (94, 2), (94, 3), (94, 4), (94, 5), (94, 6), (94, 7), (94, 8), (94, 9), (94, 10), (94, 11), (94, 12), (94, 13), (94, 14)] [] (.s 0 0 (.s 1 1 (.s 0 2 (.s 0 3 (.s 0 4 (.s 0 5 (.s 0 6 (.s 0 8 (.s 1 7 (.s 1 9 (.s 2 10 (.s 0 11 (.s 0 12 (.s 1 13 (.s 1 14 (.s 2 15 (.s 2 16 (.s 0 17 (.s 0 18 .e)))))))))))))))))))),
    (.cast 48 (.bool r.on) (.bool true)),
    (.call 38 [.int .u32 r.fin, .int .u32 g.ack] (.bool false)),
    (.call 42 [g.V A c] (.int .u32 (Last g))),
    (.call 38 [.int .u32 r.fin, .int .u32 (Last g)] (.bool false)),
    (.sched c_rwhy_T2 c_rwhy_B2 [(92, 5), (93, 0), (93, 1), (94, 3)] [] (.s 0 0 (.s 1 1 (.s 0 2 (.s 0 3 (.s 0 4 (.s 0 5 (.s 0 6 (.s 0 8 (.s 0 11 (.s 1 7 (.s 1 9 (.s 1 12 (.s 0 13 (.s 2 10 (.s 0 14 (.s 0 15 .e))))))))))))))))),
    (.cast 70 (.bool r.on) (.bool true)),
    (.call 23 [.int .u32 g.ack, .int .u32 r.fin] (.int .i64 (G g.ack r.fin))),
    (.cast 83 (.bool (decide ((G g.ack r.fin) > (IntKind.i64.wrap (s.win + 1))))) (.bool false))] (c_rwhy_up4 s r g A c) (by kernel_rfl) (by kernel_rfl)
    (by exact ⟨congrArg Value.bool k0, ⟨ent Try.func24 rfl rfl, fun w' hw => c_rend (s := g) (A := A) (c := c) wf_g (ok.keep hw) hd⟩, congrArg Value.bool k1, congrArg Value.bool k2, ⟨ent Try.func23 rfl rfl, fun w' hw => c_rgap wf_s.max (EndS_bd _)⟩, congrArg Value.bool k3, trivial, congrArg Value.bool k1, ⟨ent Try.func23 rfl rfl, fun w' hw => c_rgap (EndS_bd _) wf_s.fin⟩, congrArg Value.bool k4, trivial, congrArg Value.bool k2, ⟨ent Try.func38 rfl rfl, fun w' hw => ret_eq (congrArg Value.bool k5) ((fun w' hw => c_rbefore wf_r.fin wf_g.ack) w' hw)⟩, ⟨ent Try.func42 rfl rfl, fun w' hw => c_rlast (s := g) (A := A) (c := c) wf_g (ok.keep hw) hbl⟩, ⟨ent Try.func38 rfl rfl, fun w' hw => ret_eq (congrArg Value.bool k6) ((fun w' hw => c_rbefore wf_r.fin (Last_bd _ wf_g)) w' hw)⟩, trivial, congrArg Value.bool k2, ⟨ent Try.func23 rfl rfl, fun w' hw => c_rgap wf_g.ack wf_r.fin⟩, congrArg Value.bool k7, trivial⟩)
set_option maxRecDepth 100000 in
theorem c_rwhy_5 {w : World} (s : Sd) (r : Sd) (g : Sg)  {A : Option Addr} {c : Nat} (ok : g.Ok A c w) (hd : g.data.size ≤ 1000000) (hbl : g.blocks.length ≤ 1000000) (wf_s : s.Wf) (wf_r : r.Wf) (wf_g : g.Wf) (h0 : (s.on) = true) (h1 : (r.on) = true) (h2 : (decide ((G s.max (EndS g)) > 1)) = true) (h3 : (decide ((G (EndS g) s.fin) > (IntKind.i64.wrap (r.win + 1)))) = true) (h4 : ((Go.bits .and .i64 g.flags 16) != 0) = true) (h5 : (decide (0 < G r.fin g.ack)) = false) (h6 : (decide (0 < G r.fin (Last g))) = false) (h7 : (decide ((G g.ack r.fin) > (IntKind.i64.wrap (s.win + 1)))) = false) : Calls Try.prog 15 #[s.V, r.V, g.V A c] w fun e w' => e = .returned (.int .i64 1) ∧ Below w.heap.size w w' :=
  calls_of_check rfl Try.func15 1000000 [s.V, r.V, g.V A c] [(.callp 19 [.av (.one (.v s.V)), .av (.one (.v r.V)), .av (.one (.v (g.V A c)))] (c_rwhy_hp0 s r g A c) (c_rwhy_up4 s r g A c) (.av (.one (.u 46 2))))] (by kernel_rfl) (by kernel_rfl)
    (by exact ⟨⟨ent Try.func19 rfl rfl, c_rwhy_s5 s r g ok hd hbl wf_s wf_r wf_g h4 h0 h1 h2 h3 h5 h6 h7⟩, trivial⟩)
set_option maxRecDepth 100000 in
theorem c_rwhy_s6 {w : World} (s : Sd) (r : Sd) (g : Sg)  {A : Option Addr} {c : Nat} (ok : g.Ok A c w) (hd : g.data.size ≤ 1000000) (hbl : g.blocks.length ≤ 1000000) (wf_s : s.Wf) (wf_r : r.Wf) (wf_g : g.Wf) (k0 : ((Go.bits .and .i64 g.flags 16) != 0) = false) (k1 : (s.on) = true) (k2 : (r.on) = true) (k3 : (decide ((G s.max (EndS g)) > 1)) = true) (k4 : (decide ((G (EndS g) s.fin) > (IntKind.i64.wrap (r.win + 1)))) = true) : PCalls Try.prog 19 [.av (.one (.v s.V)), .av (.one (.v r.V)), .av (.one (.v (g.V A c)))] (c_rwhy_hp0 s r g A c) (upsB (c_rwhy_hp0 s r g A c) (c_rwhy_up4 s r g A c)) (.av (.one (.u 46 2))) (w, []) :=
  pcalls_of_check rfl Try.func19 1000000 [.av (.one (.v s.V)), .av (.one (.v r.V)), .av (.one (.v (g.V A c)))] (c_rwhy_hp0 s r g A c) [(.cast 13 (.bool ((Go.bits .and .i64 g.flags 16) != 0)) (.bool false)),
    (.call 24 [g.V A c] (.int .u32 (EndS g))),
    (.cast 17 (.bool s.on) (.bool true)),
    (.cast 20 (.bool r.on) (.bool true)),
    (.call 23 [.int .u32 s.max, .int .u32 (EndS g)] (.int .i64 (G s.max (EndS g)))),
    (.cast 27 (.bool (decide ((G s.max (EndS g)) > 1))) (.bool true)),
    (.sched c_rwhy_T0 c_rwhy_B0 [(92, 0), (92, 1), (93, 5)] [] (.s 0 0 (.s 1 1 (.s 0 2 (.s 0 3 (.s 0 4 (.s 0 7 (.s 1 5 (.s 1 8 (.s 0 9 (.s 2 6 (.s 0 10 (.s 0 11 .e))))))))))))),
    (.cast 33 (.bool s.on) (.bool true)),
    (.call 23 [.int .u32 (EndS g), .int .u32 s.fin] (.int .i64 (G (EndS g) s.fin))),
    (.cast 42 (.bool (decide ((G (EndS g) s.fin) > (IntKind.i64.wrap (r.win + 1))))) (.bool true)),
    (.sched c_rwhy_T1 c_rwhy_B1 [(93, 0)] [] (.s 0 0 (.s 1 1 (.s 0 2 (.s 0 3 (.s 0 4 (.s 0 5 (.s 0 6 (.s 0 7 (.s 0 8 (.s 0 9 (.s 0 10 (.s 0 11 (.s 0 12 (.s 0 13 (.s 0 14 (.s 0 15 (.s 0 16 (.s 0 17 (.s 0 18 .e)))))))))))))))))))),
    (.cast 48 (.bool r.on) (.bool true)),
    (.sched c_rwhy_T2 c_rwhy_B2 [(93, 0)] [] (.s 0 0 (.s 1 1 (.s 0 2 (.s 0 3 (.s 0 4 (.s 0 5 (.s 0 6 (.s 0 7 (.s 0 8 (.s 0 9 (.s 0 10 (.s 0 11 (.s 0 12 (.s 0 13 (.s 0 14 (.s 0 15 .e))))))))))))))))),
    (.cast 70 (.bool r.on) (.bool true))] (c_rwhy_up4 s r g A c) (by kernel_rfl) (by kernel_rfl)
    (by exact ⟨congrArg Value.bool k0, ⟨ent Try.func24 rfl rfl, fun w' hw => c_rend (s := g) (A := A) (c := c) wf_g (ok.keep hw) hd⟩, congrArg Value.bool k1, congrArg Value.bool k2, ⟨ent Try.func23 rfl rfl, fun w' hw => c_rgap wf_s.max (EndS_bd _)⟩, congrArg Value.bool k3, trivial, congrArg Value.bool k1, ⟨ent Try.func23 rfl rfl, fun w' hw => c_rgap (EndS_bd _) wf_s.fin⟩, congrArg Value.bool k4, trivial, congrArg Value.bool k2, trivial, congrArg Value.bool k2, trivial⟩)
set_option maxRecDepth 100000 in
theorem c_rwhy_6 {w : World} (s : Sd) (r : Sd) (g : Sg)  {A : Option Addr} {c : Nat} (ok : g.Ok A c w) (hd : g.data.size ≤ 1000000) (hbl : g.blocks.length ≤ 1000000) (wf_s : s.Wf) (wf_r : r.Wf) (wf_g : g.Wf) (h0 : (s.on) = true) (h1 : (r.on) = true) (h2 : (decide ((G s.max (EndS g)) > 1)) = true) (h3 : (decide ((G (EndS g) s.fin) > (IntKind.i64.wrap (r.win + 1)))) = true) (h4 : ((Go.bits .and .i64 g.flags 16) != 0) = false) : Calls Try.prog 15 #[s.V, r.V, g.V A c] w fun e w' => e = .returned (.int .i64 1) ∧ Below w.heap.size w w' :=
  calls_of_check rfl Try.func15 1000000 [s.V, r.V, g.V A c] [(.callp 19 [.av (.one (.v s.V)), .av (.one (.v r.V)), .av (.one (.v (g.V A c)))] (c_rwhy_hp0 s r g A c) (c_rwhy_up4 s r g A c) (.av (.one (.u 46 2))))] (by kernel_rfl) (by kernel_rfl)
    (by exact ⟨⟨ent Try.func19 rfl rfl, c_rwhy_s6 s r g ok hd hbl wf_s wf_r wf_g h4 h0 h1 h2 h3⟩, trivial⟩)
set_option maxRecDepth 100000 in
theorem c_rwhy_s7 {w : World} (s : Sd) (r : Sd) (g : Sg)  {A : Option Addr} {c : Nat} (ok : g.Ok A c w) (hd : g.data.size ≤ 1000000) (hbl : g.blocks.length ≤ 1000000) (wf_s : s.Wf) (wf_r : r.Wf) (wf_g : g.Wf) (k0 : ((Go.bits .and .i64 g.flags 16) != 0) = true) (k1 : (s.on) = true) (k2 : (r.on) = true) (k3 : (decide ((G s.max (EndS g)) > 1)) = true) (k4 : (decide ((G (EndS g) s.fin) > (IntKind.i64.wrap (r.win + 1)))) = false) (k5 : (decide (0 < G r.fin g.ack)) = true) (k6 : (decide ((G g.ack r.fin) > (IntKind.i64.wrap (s.win + 1)))) = true) : PCalls Try.prog 19 [.av (.one (.v s.V)), .av (.one (.v r.V)), .av (.one (.v (g.V A c)))] (c_rwhy_hp0 s r g A c) (upsB (c_rwhy_hp0 s r g A c) (c_rwhy_up5 s r g A c)) (.av (.one (.u 87 3))) (w, []) :=
  pcalls_of_check rfl Try.func19 1000000 [.av (.one (.v s.V)), .av (.one (.v r.V)), .av (.one (.v (g.V A c)))] (c_rwhy_hp0 s r g A c) [(.cast 13 (.bool ((Go.bits .and .i64 g.flags 16) != 0)) (.bool true)),
    (.call 24 [g.V A c] (.int .u32 (EndS g))),
    (.cast 17 (.bool s.on) (.bool true)),
    (.cast 20 (.bool r.on) (.bool true)),
    (.call 23 [.int .u32 s.max, .int .u32 (EndS g)] (.int .i64 (G s.max (EndS g)))),
    (.cast 27 (.bool (decide ((G s.max (EndS g)) > 1))) (.bool true)),
    (.sched c_rwhy_T0 c_rwhy_B0 [(92, 0), (92, 1), (93, 5)] [] (.s 0 0 (.s 1 1 (.s 0 2 (.s 0 3 (.s 0 4 (.s 0 7 (.s 1 5 (.s 1 8 (.s 0 9 (.s 2 6 (.s 0 10 (.s 0 11 .e))))))))))))),
    (.cast 33 (.bool s.on) (.bool true)),
    (.call 23 [.int .u32 (EndS g), .int .u32 s.fin] (.int .i64 (G (EndS g) s.fin))),
    (.cast 42 (.bool (decide ((G (EndS g) s.fin) > (IntKind.i64.wrap (r.win + 1))))) (.bool false)),
    (.sched c_rwhy_T1 c_rwhy_B1 [(93, 0), (93, 1), (94, 3)] [] (.s 0 0 (.s 1 1 (.s 0 2 (.s 0 3 (.s 0 4 (.s 0 5 (.s 0 6 (.s 0 8 (.s 1 7 (.s 1 9 (.s 2 10 (.s 0 11 (.s 0 12 (.s 0 13 (.s 0 14 (.s 0 15 (.s 0 16 (.s 0 17 (.s 0 18 .e)))))))))))))))))))),
    (.cast 48 (.bool r.on) (.bool true)),
    (.call 38 [.int .u32 r.fin, .int .u32 g.ack] (.bool true)),
    (.sched c_rwhy_T2 c_rwhy_B2 [(92, 5), (93, 0), (93, 1), (94, 3)] [] (.s 0 0 (.s 1 1 (.s 0 2 (.s 0 3 (.s 0 4 (.s 0 5 (.s 0 6 (.s 0 8 (.s 0 11 (.s 1 7 (.s 1 9 (.s 1 12 (.s 0 13 (.s 2 10 (.s 0 14 (.s 0 15 .e))))))))))))))))),
    (.cast 70 (.bool r.on) (.bool true)),
    (.call 23 [.int .u32 g.ack, .int .u32 r.fin] (.int .i64 (G g.ack r.fin))),
    (.cast 83 (.bool (decide ((G g.ack r.fin) > (IntKind.i64.wrap (s.win + 1))))) (.bool true))] (c_rwhy_up5 s r g A c) (by kernel_rfl) (by kernel_rfl)
    (by exact ⟨congrArg Value.bool k0, ⟨ent Try.func24 rfl rfl, fun w' hw => c_rend (s := g) (A := A) (c := c) wf_g (ok.keep hw) hd⟩, congrArg Value.bool k1, congrArg Value.bool k2, ⟨ent Try.func23 rfl rfl, fun w' hw => c_rgap wf_s.max (EndS_bd _)⟩, congrArg Value.bool k3, trivial, congrArg Value.bool k1, ⟨ent Try.func23 rfl rfl, fun w' hw => c_rgap (EndS_bd _) wf_s.fin⟩, congrArg Value.bool k4, trivial, congrArg Value.bool k2, ⟨ent Try.func38 rfl rfl, fun w' hw => ret_eq (congrArg Value.bool k5) ((fun w' hw => c_rbefore wf_r.fin wf_g.ack) w' hw)⟩, trivial, congrArg Value.bool k2, ⟨ent Try.func23 rfl rfl, fun w' hw => c_rgap wf_g.ack wf_r.fin⟩, congrArg Value.bool k6, trivial⟩)
set_option maxRecDepth 100000 in
theorem c_rwhy_7 {w : World} (s : Sd) (r : Sd) (g : Sg)  {A : Option Addr} {c : Nat} (ok : g.Ok A c w) (hd : g.data.size ≤ 1000000) (hbl : g.blocks.length ≤ 1000000) (wf_s : s.Wf) (wf_r : r.Wf) (wf_g : g.Wf) (h0 : (s.on) = true) (h1 : (r.on) = true) (h2 : (decide ((G s.max (EndS g)) > 1)) = true) (h3 : (decide ((G (EndS g) s.fin) > (IntKind.i64.wrap (r.win + 1)))) = false) (h4 : ((Go.bits .and .i64 g.flags 16) != 0) = true) (h5 : (decide (0 < G r.fin g.ack)) = true) (h6 : (decide ((G g.ack r.fin) > (IntKind.i64.wrap (s.win + 1)))) = true) : Calls Try.prog 15 #[s.V, r.V, g.V A c] w fun e w' => e = .returned (.int .i64 1) ∧ Below w.heap.size w w' :=
  calls_of_check rfl Try.func15 1000000 [s.V, r.V, g.V A c] [(.callp 19 [.av (.one (.v s.V)), .av (.one (.v r.V)), .av (.one (.v (g.V A c)))] (c_rwhy_hp0 s r g A c) (c_rwhy_up5 s r g A c) (.av (.one (.u 87 3))))] (by kernel_rfl) (by kernel_rfl)
    (by exact ⟨⟨ent Try.func19 rfl rfl, c_rwhy_s7 s r g ok hd hbl wf_s wf_r wf_g h4 h0 h1 h2 h3 h5 h6⟩, trivial⟩)
set_option maxRecDepth 100000 in
theorem c_rwhy_s8 {w : World} (s : Sd) (r : Sd) (g : Sg)  {A : Option Addr} {c : Nat} (ok : g.Ok A c w) (hd : g.data.size ≤ 1000000) (hbl : g.blocks.length ≤ 1000000) (wf_s : s.Wf) (wf_r : r.Wf) (wf_g : g.Wf) (k0 : ((Go.bits .and .i64 g.flags 16) != 0) = true) (k1 : (s.on) = true) (k2 : (r.on) = true) (k3 : (decide ((G s.max (EndS g)) > 1)) = true) (k4 : (decide ((G (EndS g) s.fin) > (IntKind.i64.wrap (r.win + 1)))) = false) (k5 : (decide (0 < G r.fin g.ack)) = true) (k6 : (decide ((G g.ack r.fin) > (IntKind.i64.wrap (s.win + 1)))) = false) : PCalls Try.prog 19 [.av (.one (.v s.V)), .av (.one (.v r.V)), .av (.one (.v (g.V A c)))] (c_rwhy_hp0 s r g A c) (upsB (c_rwhy_hp0 s r g A c) (c_rwhy_up6 s r g A c)) (.av (.one (.u 68 2))) (w, []) :=
  pcalls_of_check rfl Try.func19 1000000 [.av (.one (.v s.V)), .av (.one (.v r.V)), .av (.one (.v (g.V A c)))] (c_rwhy_hp0 s r g A c) [(.cast 13 (.bool ((Go.bits .and .i64 g.flags 16) != 0)) (.bool true)),
    (.call 24 [g.V A c] (.int .u32 (EndS g))),
    (.cast 17 (.bool s.on) (.bool true)),
    (.cast 20 (.bool r.on) (.bool true)),
    (.call 23 [.int .u32 s.max, .int .u32 (EndS g)] (.int .i64 (G s.max (EndS g)))),
    (.cast 27 (.bool (decide ((G s.max (EndS g)) > 1))) (.bool true)),
    (.sched c_rwhy_T0 c_rwhy_B0 [(92, 0), (92, 1), (93, 5)] [] (.s 0 0 (.s 1 1 (.s 0 2 (.s 0 3 (.s 0 4 (.s 0 7 (.s 1 5 (.s 1 8 (.s 0 9 (.s 2 6 (.s 0 10 (.s 0 11 .e))))))))))))),
    (.cast 33 (.bool s.on) (.bool true)),
    (.call 23 [.int .u32 (EndS g), .int .u32 s.fin] (.int .i64 (G (EndS g) s.fin))),
    (.cast 42 (.bool (decide ((G (EndS g) s.fin) > (IntKind.i64.wrap (r.win + 1))))) (.bool false)),
    (.sched c_rwhy_T1 c_rwhy_B1 [(93, 0), (93, 1), (94, 3)] [] (.s 0 0 (.s 1 1 (.s 0 2 (.s 0 3 (.s 0 4 (.s 0 5 (.s 0 6 (.s 0 8 (.s 1 7 (.s 1 9 (.s 2 10 (.s 0 11 (.s 0 12 (.s 0 13 (.s 0 14 (.s 0 15 (.s 0 16 (.s 0 17 (.s 0 18 .e)))))))))))))))))))),
    (.cast 48 (.bool r.on) (.bool true)),
    (.call 38 [.int .u32 r.fin, .int .u32 g.ack] (.bool true)),
    (.sched c_rwhy_T2 c_rwhy_B2 [(92, 5), (93, 0), (93, 1), (94, 3)] [] (.s 0 0 (.s 1 1 (.s 0 2 (.s 0 3 (.s 0 4 (.s 0 5 (.s 0 6 (.s 0 8 (.s 0 11 (.s 1 7 (.s 1 9 (.s 1 12 (.s 0 13 (.s 2 10 (.s 0 14 (.s 0 15 .e))))))))))))))))),
    (.cast 70 (.bool r.on) (.bool true)),
    (.call 23 [.int .u32 g.ack, .int .u32 r.fin] (.int .i64 (G g.ack r.fin))),
    (.cast 83 (.bool (decide ((G g.ack r.fin) > (IntKind.i64.wrap (s.win + 1))))) (.bool false))] (c_rwhy_up6 s r g A c) (by kernel_rfl) (by kernel_rfl)
    (by exact ⟨congrArg Value.bool k0, ⟨ent Try.func24 rfl rfl, fun w' hw => c_rend (s := g) (A := A) (c := c) wf_g (ok.keep hw) hd⟩, congrArg Value.bool k1, congrArg Value.bool k2, ⟨ent Try.func23 rfl rfl, fun w' hw => c_rgap wf_s.max (EndS_bd _)⟩, congrArg Value.bool k3, trivial, congrArg Value.bool k1, ⟨ent Try.func23 rfl rfl, fun w' hw => c_rgap (EndS_bd _) wf_s.fin⟩, congrArg Value.bool k4, trivial, congrArg Value.bool k2, ⟨ent Try.func38 rfl rfl, fun w' hw => ret_eq (congrArg Value.bool k5) ((fun w' hw => c_rbefore wf_r.fin wf_g.ack) w' hw)⟩, trivial, congrArg Value.bool k2, ⟨ent Try.func23 rfl rfl, fun w' hw => c_rgap wf_g.ack wf_r.fin⟩, congrArg Value.bool k6, trivial⟩)
set_option maxRecDepth 100000 in
theorem c_rwhy_8 {w : World} (s : Sd) (r : Sd) (g : Sg)  {A : Option Addr} {c : Nat} (ok : g.Ok A c w) (hd : g.data.size ≤ 1000000) (hbl : g.blocks.length ≤ 1000000) (wf_s : s.Wf) (wf_r : r.Wf) (wf_g : g.Wf) (h0 : (s.on) = true) (h1 : (r.on) = true) (h2 : (decide ((G s.max (EndS g)) > 1)) = true) (h3 : (decide ((G (EndS g) s.fin) > (IntKind.i64.wrap (r.win + 1)))) = false) (h4 : ((Go.bits .and .i64 g.flags 16) != 0) = true) (h5 : (decide (0 < G r.fin g.ack)) = true) (h6 : (decide ((G g.ack r.fin) > (IntKind.i64.wrap (s.win + 1)))) = false) : Calls Try.prog 15 #[s.V, r.V, g.V A c] w fun e w' => e = .returned (.int .i64 1) ∧ Below w.heap.size w w' :=
  calls_of_check rfl Try.func15 1000000 [s.V, r.V, g.V A c] [(.callp 19 [.av (.one (.v s.V)), .av (.one (.v r.V)), .av (.one (.v (g.V A c)))] (c_rwhy_hp0 s r g A c) (c_rwhy_up6 s r g A c) (.av (.one (.u 68 2))))] (by kernel_rfl) (by kernel_rfl)
    (by exact ⟨⟨ent Try.func19 rfl rfl, c_rwhy_s8 s r g ok hd hbl wf_s wf_r wf_g h4 h0 h1 h2 h3 h5 h6⟩, trivial⟩)
set_option maxRecDepth 100000 in
theorem c_rwhy_s9 {w : World} (s : Sd) (r : Sd) (g : Sg)  {A : Option Addr} {c : Nat} (ok : g.Ok A c w) (hd : g.data.size ≤ 1000000) (hbl : g.blocks.length ≤ 1000000) (wf_s : s.Wf) (wf_r : r.Wf) (wf_g : g.Wf) (k0 : ((Go.bits .and .i64 g.flags 16) != 0) = true) (k1 : (s.on) = true) (k2 : (r.on) = true) (k3 : (decide ((G s.max (EndS g)) > 1)) = true) (k4 : (decide ((G (EndS g) s.fin) > (IntKind.i64.wrap (r.win + 1)))) = false) (k5 : (decide (0 < G r.fin g.ack)) = false) (k6 : (decide (0 < G r.fin (Last g))) = true) (k7 : (decide ((G g.ack r.fin) > (IntKind.i64.wrap (s.win + 1)))) = true) : PCalls Try.prog 19 [.av (.one (.v s.V)), .av (.one (.v r.V)), .av (.one (.v (g.V A c)))] (c_rwhy_hp0 s r g A c) (upsB (c_rwhy_hp0 s r g A c) (c_rwhy_up5 s r g A c)) (.av (.one (.u 87 3))) (w, []) :=
  pcalls_of_check rfl Try.func19 1000000 [.av (.one (.v s.V)), .av (.one (.v r.V)), .av (.one (.v (g.V A c)))] (c_rwhy_hp0 s r g A c) [(.cast 13 (.bool ((Go.bits .and .i64 g.flags 16) != 0)) (.bool true)),
    (.call 24 [g.V A c] (.int .u32 (EndS g))),
    (.cast 17 (.bool s.on) (.bool true)),
    (.cast 20 (.bool r.on) (.bool true)),
    (.call 23 [.int .u32 s.max, .int .u32 (EndS g)] (.int .i64 (G s.max (EndS g)))),
    (.cast 27 (.bool (decide ((G s.max (EndS g)) > 1))) (.bool true)),
    (.sched c_rwhy_T0 c_rwhy_B0 [(92, 0), (92, 1), (93, 5)] [] (.s 0 0 (.s 1 1 (.s 0 2 (.s 0 3 (.s 0 4 (.s 0 7 (.s 1 5 (.s 1 8 (.s 0 9 (.s 2 6 (.s 0 10 (.s 0 11 .e))))))))))))),
    (.cast 33 (.bool s.on) (.bool true)),
    (.call 23 [.int .u32 (EndS g), .int .u32 s.fin] (.int .i64 (G (EndS g) s.fin))),
    (.cast 42 (.bool (decide ((G (EndS g) s.fin) > (IntKind.i64.wrap (r.win + 1))))) (.bool false)),
    (.sched c_rwhy_T1 c_rwhy_B1 [(93, 0), (93, 1), (94, 0), (94, 1), (94, 2), (94, 3), (94, 4), (94, 5), (94, 6), (94, 7), (94, 8), (94, 9), (94, 10), (94, 11), (94, 12), (94, 13), (94, 14)] [] (.s 0 0 (.s 1 1 (.s 0 2 (.s 0 3 (.s 0 4 (.s 0 5 (.s 0 6 (.s 0 8 (.s 1 7 (.s 1 9 (.s 2 10 (.s 0 11 (.s 0 12 (.s 1 13 (.s 1 14 (.s 2 15 (.s 2 16 (.s 0 17 (.s 0 18 .e)))))))))))))))))))),
    (.cast 48 (.bool r.on) (.bool true)),
    (.call 38 [.int .u32 r.fin, .int .u32 g.ack] (.bool false)),
    (.call 42 [g.V A c] (.int .u32 (Last g))),
    (.call 38 [.int .u32 r.fin, .int .u32 (Last g)] (.bool true)),
    (.sched c_rwhy_T2 c_rwhy_B2 [(92, 5), (93, 0), (93, 1), (94, 3)] [] (.s 0 0 (.s 1 1 (.s 0 2 (.s 0 3 (.s 0 4 (.s 0 5 (.s 0 6 (.s 0 8 (.s 0 11 (.s 1 7 (.s 1 9 (.s 1 12 (.s 0 13 (.s 2 10 (.s 0 14 (.s 0 15 .e))))))))))))))))),
    (.cast 70 (.bool r.on) (.bool true)),
    (.call 23 [.int .u32 g.ack, .int .u32 r.fin] (.int .i64 (G g.ack r.fin))),
    (.cast 83 (.bool (decide ((G g.ack r.fin) > (IntKind.i64.wrap (s.win + 1))))) (.bool true))] (c_rwhy_up5 s r g A c) (by kernel_rfl) (by kernel_rfl)
    (by exact ⟨congrArg Value.bool k0, ⟨ent Try.func24 rfl rfl, fun w' hw => c_rend (s := g) (A := A) (c := c) wf_g (ok.keep hw) hd⟩, congrArg Value.bool k1, congrArg Value.bool k2, ⟨ent Try.func23 rfl rfl, fun w' hw => c_rgap wf_s.max (EndS_bd _)⟩, congrArg Value.bool k3, trivial, congrArg Value.bool k1, ⟨ent Try.func23 rfl rfl, fun w' hw => c_rgap (EndS_bd _) wf_s.fin⟩, congrArg Value.bool k4, trivial, congrArg Value.bool k2, ⟨ent Try.func38 rfl rfl, fun w' hw => ret_eq (congrArg Value.bool k5) ((fun w' hw => c_rbefore wf_r.fin wf_g.ack) w' hw)⟩, ⟨ent Try.func42 rfl rfl, fun w' hw => c_rlast (s := g) (A := A) (c := c) wf_g (ok.keep hw) hbl⟩, ⟨ent Try.func38 rfl rfl, fun w' hw => ret_eq (congrArg Value.bool k6) ((fun w' hw => c_rbefore wf_r.fin (Last_bd _ wf_g)) w' hw)⟩, trivial, congrArg Value.bool k2, ⟨ent Try.func23 rfl rfl, fun w' hw => c_rgap wf_g.ack wf_r.fin⟩, congrArg Value.bool k7, trivial⟩)
set_option maxRecDepth 100000 in
theorem c_rwhy_9 {w : World} (s : Sd) (r : Sd) (g : Sg)  {A : Option Addr} {c : Nat} (ok : g.Ok A c w) (hd : g.data.size ≤ 1000000) (hbl : g.blocks.length ≤ 1000000) (wf_s : s.Wf) (wf_r : r.Wf) (wf_g : g.Wf) (h0 : (s.on) = true) (h1 : (r.on) = true) (h2 : (decide ((G s.max (EndS g)) > 1)) = true) (h3 : (decide ((G (EndS g) s.fin) > (IntKind.i64.wrap (r.win + 1)))) = false) (h4 : ((Go.bits .and .i64 g.flags 16) != 0) = true) (h5 : (decide (0 < G r.fin g.ack)) = false) (h6 : (decide (0 < G r.fin (Last g))) = true) (h7 : (decide ((G g.ack r.fin) > (IntKind.i64.wrap (s.win + 1)))) = true) : Calls Try.prog 15 #[s.V, r.V, g.V A c] w fun e w' => e = .returned (.int .i64 1) ∧ Below w.heap.size w w' :=
  calls_of_check rfl Try.func15 1000000 [s.V, r.V, g.V A c] [(.callp 19 [.av (.one (.v s.V)), .av (.one (.v r.V)), .av (.one (.v (g.V A c)))] (c_rwhy_hp0 s r g A c) (c_rwhy_up5 s r g A c) (.av (.one (.u 87 3))))] (by kernel_rfl) (by kernel_rfl)
    (by exact ⟨⟨ent Try.func19 rfl rfl, c_rwhy_s9 s r g ok hd hbl wf_s wf_r wf_g h4 h0 h1 h2 h3 h5 h6 h7⟩, trivial⟩)
set_option maxRecDepth 100000 in
theorem c_rwhy_s10 {w : World} (s : Sd) (r : Sd) (g : Sg)  {A : Option Addr} {c : Nat} (ok : g.Ok A c w) (hd : g.data.size ≤ 1000000) (hbl : g.blocks.length ≤ 1000000) (wf_s : s.Wf) (wf_r : r.Wf) (wf_g : g.Wf) (k0 : ((Go.bits .and .i64 g.flags 16) != 0) = true) (k1 : (s.on) = true) (k2 : (r.on) = true) (k3 : (decide ((G s.max (EndS g)) > 1)) = true) (k4 : (decide ((G (EndS g) s.fin) > (IntKind.i64.wrap (r.win + 1)))) = false) (k5 : (decide (0 < G r.fin g.ack)) = false) (k6 : (decide (0 < G r.fin (Last g))) = true) (k7 : (decide ((G g.ack r.fin) > (IntKind.i64.wrap (s.win + 1)))) = false) : PCalls Try.prog 19 [.av (.one (.v s.V)), .av (.one (.v r.V)), .av (.one (.v (g.V A c)))] (c_rwhy_hp0 s r g A c) (upsB (c_rwhy_hp0 s r g A c) (c_rwhy_up6 s r g A c)) (.av (.one (.u 68 2))) (w, []) :=
  pcalls_of_check rfl Try.func19 1000000 [.av (.one (.v s.V)), .av (.one (.v r.V)), .av (.one (.v (g.V A c)))] (c_rwhy_hp0 s r g A c) [(.cast 13 (.bool ((Go.bits .and .i64 g.flags 16) != 0)) (.bool true)),
    (.call 24 [g.V A c] (.int .u32 (EndS g))),
    (.cast 17 (.bool s.on) (.bool true)),
    (.cast 20 (.bool r.on) (.bool true)),
    (.call 23 [.int .u32 s.max, .int .u32 (EndS g)] (.int .i64 (G s.max (EndS g)))),
    (.cast 27 (.bool (decide ((G s.max (EndS g)) > 1))) (.bool true)),
    (.sched c_rwhy_T0 c_rwhy_B0 [(92, 0), (92, 1), (93, 5)] [] (.s 0 0 (.s 1 1 (.s 0 2 (.s 0 3 (.s 0 4 (.s 0 7 (.s 1 5 (.s 1 8 (.s 0 9 (.s 2 6 (.s 0 10 (.s 0 11 .e))))))))))))),
    (.cast 33 (.bool s.on) (.bool true)),
    (.call 23 [.int .u32 (EndS g), .int .u32 s.fin] (.int .i64 (G (EndS g) s.fin))),
    (.cast 42 (.bool (decide ((G (EndS g) s.fin) > (IntKind.i64.wrap (r.win + 1))))) (.bool false)),
    (.sched c_rwhy_T1 c_rwhy_B1 [(93, 0), (93, 1), (94, 0), (94, 1), (94, 2), (94, 3), (94, 4), (94, 5), (94, 6), (94, 7), (94, 8), (94, 9), (94, 10), (94, 11), (94, 12), (94, 13), (94, 14)] [] (.s 0 0 (.s 1 1 (.s 0 2 (.s 0 3 (.s 0 4 (.s 0 5 (.s 0 6 (.s 0 8 (.s 1 7 (.s 1 9 (.s 2 10 (.s 0 11 (.s 0 12 (.s 1 13 (.s 1 14 (.s 2 15 (.s 2 16 (.s 0 17 (.s 0 18 .e)))))))))))))))))))),
    (.cast 48 (.bool r.on) (.bool true)),
    (.call 38 [.int .u32 r.fin, .int .u32 g.ack] (.bool false)),
    (.call 42 [g.V A c] (.int .u32 (Last g))),
    (.call 38 [.int .u32 r.fin, .int .u32 (Last g)] (.bool true)),
    (.sched c_rwhy_T2 c_rwhy_B2 [(92, 5), (93, 0), (93, 1), (94, 3)] [] (.s 0 0 (.s 1 1 (.s 0 2 (.s 0 3 (.s 0 4 (.s 0 5 (.s 0 6 (.s 0 8 (.s 0 11 (.s 1 7 (.s 1 9 (.s 1 12 (.s 0 13 (.s 2 10 (.s 0 14 (.s 0 15 .e))))))))))))))))),
    (.cast 70 (.bool r.on) (.bool true)),
    (.call 23 [.int .u32 g.ack, .int .u32 r.fin] (.int .i64 (G g.ack r.fin))),
    (.cast 83 (.bool (decide ((G g.ack r.fin) > (IntKind.i64.wrap (s.win + 1))))) (.bool false))] (c_rwhy_up6 s r g A c) (by kernel_rfl) (by kernel_rfl)
    (by exact ⟨congrArg Value.bool k0, ⟨ent Try.func24 rfl rfl, fun w' hw => c_rend (s := g) (A := A) (c := c) wf_g (ok.keep hw) hd⟩, congrArg Value.bool k1, congrArg Value.bool k2, ⟨ent Try.func23 rfl rfl, fun w' hw => c_rgap wf_s.max (EndS_bd _)⟩, congrArg Value.bool k3, trivial, congrArg Value.bool k1, ⟨ent Try.func23 rfl rfl, fun w' hw => c_rgap (EndS_bd _) wf_s.fin⟩, congrArg Value.bool k4, trivial, congrArg Value.bool k2, ⟨ent Try.func38 rfl rfl, fun w' hw => ret_eq (congrArg Value.bool k5) ((fun w' hw => c_rbefore wf_r.fin wf_g.ack) w' hw)⟩, ⟨ent Try.func42 rfl rfl, fun w' hw => c_rlast (s := g) (A := A) (c := c) wf_g (ok.keep hw) hbl⟩, ⟨ent Try.func38 rfl rfl, fun w' hw => ret_eq (congrArg Value.bool k6) ((fun w' hw => c_rbefore wf_r.fin (Last_bd _ wf_g)) w' hw)⟩, trivial, congrArg Value.bool k2, ⟨ent Try.func23 rfl rfl, fun w' hw => c_rgap wf_g.ack wf_r.fin⟩, congrArg Value.bool k7, trivial⟩)
set_option maxRecDepth 100000 in
theorem c_rwhy_10 {w : World} (s : Sd) (r : Sd) (g : Sg)  {A : Option Addr} {c : Nat} (ok : g.Ok A c w) (hd : g.data.size ≤ 1000000) (hbl : g.blocks.length ≤ 1000000) (wf_s : s.Wf) (wf_r : r.Wf) (wf_g : g.Wf) (h0 : (s.on) = true) (h1 : (r.on) = true) (h2 : (decide ((G s.max (EndS g)) > 1)) = true) (h3 : (decide ((G (EndS g) s.fin) > (IntKind.i64.wrap (r.win + 1)))) = false) (h4 : ((Go.bits .and .i64 g.flags 16) != 0) = true) (h5 : (decide (0 < G r.fin g.ack)) = false) (h6 : (decide (0 < G r.fin (Last g))) = true) (h7 : (decide ((G g.ack r.fin) > (IntKind.i64.wrap (s.win + 1)))) = false) : Calls Try.prog 15 #[s.V, r.V, g.V A c] w fun e w' => e = .returned (.int .i64 1) ∧ Below w.heap.size w w' :=
  calls_of_check rfl Try.func15 1000000 [s.V, r.V, g.V A c] [(.callp 19 [.av (.one (.v s.V)), .av (.one (.v r.V)), .av (.one (.v (g.V A c)))] (c_rwhy_hp0 s r g A c) (c_rwhy_up6 s r g A c) (.av (.one (.u 68 2))))] (by kernel_rfl) (by kernel_rfl)
    (by exact ⟨⟨ent Try.func19 rfl rfl, c_rwhy_s10 s r g ok hd hbl wf_s wf_r wf_g h4 h0 h1 h2 h3 h5 h6 h7⟩, trivial⟩)
set_option maxRecDepth 100000 in
theorem c_rwhy_s11 {w : World} (s : Sd) (r : Sd) (g : Sg)  {A : Option Addr} {c : Nat} (ok : g.Ok A c w) (hd : g.data.size ≤ 1000000) (hbl : g.blocks.length ≤ 1000000) (wf_s : s.Wf) (wf_r : r.Wf) (wf_g : g.Wf) (k0 : ((Go.bits .and .i64 g.flags 16) != 0) = true) (k1 : (s.on) = true) (k2 : (r.on) = true) (k3 : (decide ((G s.max (EndS g)) > 1)) = true) (k4 : (decide ((G (EndS g) s.fin) > (IntKind.i64.wrap (r.win + 1)))) = false) (k5 : (decide (0 < G r.fin g.ack)) = false) (k6 : (decide (0 < G r.fin (Last g))) = false) (k7 : (decide ((G g.ack r.fin) > (IntKind.i64.wrap (s.win + 1)))) = true) : PCalls Try.prog 19 [.av (.one (.v s.V)), .av (.one (.v r.V)), .av (.one (.v (g.V A c)))] (c_rwhy_hp0 s r g A c) (upsB (c_rwhy_hp0 s r g A c) (c_rwhy_up7 s r g A c)) (.av (.one (.u 87 2))) (w, []) :=
  pcalls_of_check rfl Try.func19 1000000 [.av (.one (.v s.V)), .av (.one (.v r.V)), .av (.one (.v (g.V A c)))] (c_rwhy_hp0 s r g A c) [(.cast 13 (.bool ((Go.bits .and .i64 g.flags 16) != 0)) (.bool true)),
    (.call 24 [g.V A c] (.int .u32 (EndS g))),
    (.cast 17 (.bool s.on) (.bool true)),
    (.cast 20 (.bool r.on) (.bool true)),
    (.call 23 [.int .u32 s.max, .int .u32 (EndS g)] (.int .i64 (G s.max (EndS g)))),
    (.cast 27 (.bool (decide ((G s.max (EndS g)) > 1))) (.bool true)),
    (.sched c_rwhy_T0 c_rwhy_B0 [(92, 0), (92, 1), (93, 5)] [] (.s 0 0 (.s 1 1 (.s 0 2 (.s 0 3 (.s 0 4 (.s 0 7 (.s 1 5 (.s 1 8 (.s 0 9 (.s 2 6 (.s 0 10 (.s 0 11 .e))))))))))))),
    (.cast 33 (.bool s.on) (.bool true)),
    (.call 23 [.int .u32 (EndS g), .int .u32 s.fin] (.int .i64 (G (EndS g) s.fin))),
    (.cast 42 (.bool (decide ((G (EndS g) s.fin) > (IntKind.i64.wrap (r.win + 1))))) (.bool false)),
    (.sched c_rwhy_T1 c_rwhy_B1 [(93, 0), (93, 1), (94, 0), (94, 1), (94, 2), (94, 3), (94, 4), (94, 5), (94, 6), (94, 7), (94, 8), (94, 9), (94, 10), (94, 11), (94, 12), (94, 13), (94, 14)] [] (.s 0 0 (.s 1 1 (.s 0 2 (.s 0 3 (.s 0 4 (.s 0 5 (.s 0 6 (.s 0 8 (.s 1 7 (.s 1 9 (.s 2 10 (.s 0 11 (.s 0 12 (.s 1 13 (.s 1 14 (.s 2 15 (.s 2 16 (.s 0 17 (.s 0 18 .e)))))))))))))))))))),
    (.cast 48 (.bool r.on) (.bool true)),
    (.call 38 [.int .u32 r.fin, .int .u32 g.ack] (.bool false)),
    (.call 42 [g.V A c] (.int .u32 (Last g))),
    (.call 38 [.int .u32 r.fin, .int .u32 (Last g)] (.bool false)),
    (.sched c_rwhy_T2 c_rwhy_B2 [(92, 5), (93, 0), (93, 1), (94, 3)] [] (.s 0 0 (.s 1 1 (.s 0 2 (.s 0 3 (.s 0 4 (.s 0 5 (.s 0 6 (.s 0 8 (.s 0 11 (.s 1 7 (.s 1 9 (.s 1 12 (.s 0 13 (.s 2 10 (.s 0 14 (.s 0 15 .e))))))))))))))))),
    (.cast 70 (.bool r.on) (.bool true)),
    (.call 23 [.int .u32 g.ack, .int .u32 r.fin] (.int .i64 (G g.ack r.fin))),
    (.cast 83 (.bool (decide ((G g.ack r.fin) > (IntKind.i64.wrap (s.win + 1))))) (.bool true))] (c_rwhy_up7 s r g A c) (by kernel_rfl) (by kernel_rfl)
    (by exact ⟨congrArg Value.bool k0, ⟨ent Try.func24 rfl rfl, fun w' hw => c_rend (s := g) (A := A) (c := c) wf_g (ok.keep hw) hd⟩, congrArg Value.bool k1, congrArg Value.bool k2, ⟨ent Try.func23 rfl rfl, fun w' hw => c_rgap wf_s.max (EndS_bd _)⟩, congrArg Value.bool k3, trivial, congrArg Value.bool k1, ⟨ent Try.func23 rfl rfl, fun w' hw => c_rgap (EndS_bd _) wf_s.fin⟩, congrArg Value.bool k4, trivial, congrArg Value.bool k2, ⟨ent Try.func38 rfl rfl, fun w' hw => ret_eq (congrArg Value.bool k5) ((fun w' hw => c_rbefore wf_r.fin wf_g.ack) w' hw)⟩, ⟨ent Try.func42 rfl rfl, fun w' hw => c_rlast (s := g) (A := A) (c := c) wf_g (ok.keep hw) hbl⟩, ⟨ent Try.func38 rfl rfl, fun w' hw => ret_eq (congrArg Value.bool k6) ((fun w' hw => c_rbefore wf_r.fin (Last_bd _ wf_g)) w' hw)⟩, trivial, congrArg Value.bool k2, ⟨ent Try.func23 rfl rfl, fun w' hw => c_rgap wf_g.ack wf_r.fin⟩, congrArg Value.bool k7, trivial⟩)
set_option maxRecDepth 100000 in
theorem c_rwhy_11 {w : World} (s : Sd) (r : Sd) (g : Sg)  {A : Option Addr} {c : Nat} (ok : g.Ok A c w) (hd : g.data.size ≤ 1000000) (hbl : g.blocks.length ≤ 1000000) (wf_s : s.Wf) (wf_r : r.Wf) (wf_g : g.Wf) (h0 : (s.on) = true) (h1 : (r.on) = true) (h2 : (decide ((G s.max (EndS g)) > 1)) = true) (h3 : (decide ((G (EndS g) s.fin) > (IntKind.i64.wrap (r.win + 1)))) = false) (h4 : ((Go.bits .and .i64 g.flags 16) != 0) = true) (h5 : (decide (0 < G r.fin g.ack)) = false) (h6 : (decide (0 < G r.fin (Last g))) = false) (h7 : (decide ((G g.ack r.fin) > (IntKind.i64.wrap (s.win + 1)))) = true) : Calls Try.prog 15 #[s.V, r.V, g.V A c] w fun e w' => e = .returned (.int .i64 1) ∧ Below w.heap.size w w' :=
  calls_of_check rfl Try.func15 1000000 [s.V, r.V, g.V A c] [(.callp 19 [.av (.one (.v s.V)), .av (.one (.v r.V)), .av (.one (.v (g.V A c)))] (c_rwhy_hp0 s r g A c) (c_rwhy_up7 s r g A c) (.av (.one (.u 87 2))))] (by kernel_rfl) (by kernel_rfl)
    (by exact ⟨⟨ent Try.func19 rfl rfl, c_rwhy_s11 s r g ok hd hbl wf_s wf_r wf_g h4 h0 h1 h2 h3 h5 h6 h7⟩, trivial⟩)
set_option maxRecDepth 100000 in
theorem c_rwhy_s12 {w : World} (s : Sd) (r : Sd) (g : Sg)  {A : Option Addr} {c : Nat} (ok : g.Ok A c w) (hd : g.data.size ≤ 1000000) (hbl : g.blocks.length ≤ 1000000) (wf_s : s.Wf) (wf_r : r.Wf) (wf_g : g.Wf) (k0 : ((Go.bits .and .i64 g.flags 16) != 0) = true) (k1 : (s.on) = true) (k2 : (r.on) = true) (k3 : (decide ((G s.max (EndS g)) > 1)) = true) (k4 : (decide ((G (EndS g) s.fin) > (IntKind.i64.wrap (r.win + 1)))) = false) (k5 : (decide (0 < G r.fin g.ack)) = false) (k6 : (decide (0 < G r.fin (Last g))) = false) (k7 : (decide ((G g.ack r.fin) > (IntKind.i64.wrap (s.win + 1)))) = false) : PCalls Try.prog 19 [.av (.one (.v s.V)), .av (.one (.v r.V)), .av (.one (.v (g.V A c)))] (c_rwhy_hp0 s r g A c) (upsB (c_rwhy_hp0 s r g A c) (c_rwhy_up8 s r g A c)) (.av (.one (.u 31 1))) (w, []) :=
  pcalls_of_check rfl Try.func19 1000000 [.av (.one (.v s.V)), .av (.one (.v r.V)), .av (.one (.v (g.V A c)))] (c_rwhy_hp0 s r g A c) [(.cast 13 (.bool ((Go.bits .and .i64 g.flags 16) != 0)) (.bool true)),
    (.call 24 [g.V A c] (.int .u32 (EndS g))),
    (.cast 17 (.bool s.on) (.bool true)),
    (.cast 20 (.bool r.on) (.bool true)),
    (.call 23 [.int .u32 s.max, .int .u32 (EndS g)] (.int .i64 (G s.max (EndS g)))),
    (.cast 27 (.bool (decide ((G s.max (EndS g)) > 1))) (.bool true)),
    (.sched c_rwhy_T0 c_rwhy_B0 [(92, 0), (92, 1), (93, 5)] [] (.s 0 0 (.s 1 1 (.s 0 2 (.s 0 3 (.s 0 4 (.s 0 7 (.s 1 5 (.s 1 8 (.s 0 9 (.s 2 6 (.s 0 10 (.s 0 11 .e))))))))))))),
    (.cast 33 (.bool s.on) (.bool true)),
    (.call 23 [.int .u32 (EndS g), .int .u32 s.fin] (.int .i64 (G (EndS g) s.fin))),
    (.cast 42 (.bool (decide ((G (EndS g) s.fin) > (IntKind.i64.wrap (r.win + 1))))) (.bool false)),
    (.sched c_rwhy_T1 c_rwhy_B1 [(93, 0), (93, 1), (94, 0), (94, 1), (94, 2), (94, 3), (94, 4), (94, 5), (94, 6), (94, 7), (94, 8), (94, 9), (94, 10), (94, 11), (94, 12), (94, 13), (94, 14)] [] (.s 0 0 (.s 1 1 (.s 0 2 (.s 0 3 (.s 0 4 (.s 0 5 (.s 0 6 (.s 0 8 (.s 1 7 (.s 1 9 (.s 2 10 (.s 0 11 (.s 0 12 (.s 1 13 (.s 1 14 (.s 2 15 (.s 2 16 (.s 0 17 (.s 0 18 .e)))))))))))))))))))),
    (.cast 48 (.bool r.on) (.bool true)),
    (.call 38 [.int .u32 r.fin, .int .u32 g.ack] (.bool false)),
    (.call 42 [g.V A c] (.int .u32 (Last g))),
    (.call 38 [.int .u32 r.fin, .int .u32 (Last g)] (.bool false)),
    (.sched c_rwhy_T2 c_rwhy_B2 [(92, 5), (93, 0), (93, 1), (94, 3)] [] (.s 0 0 (.s 1 1 (.s 0 2 (.s 0 3 (.s 0 4 (.s 0 5 (.s 0 6 (.s 0 8 (.s 0 11 (.s 1 7 (.s 1 9 (.s 1 12 (.s 0 13 (.s 2 10 (.s 0 14 (.s 0 15 .e))))))))))))))))),
    (.cast 70 (.bool r.on) (.bool true)),
    (.call 23 [.int .u32 g.ack, .int .u32 r.fin] (.int .i64 (G g.ack r.fin))),
    (.cast 83 (.bool (decide ((G g.ack r.fin) > (IntKind.i64.wrap (s.win + 1))))) (.bool false))] (c_rwhy_up8 s r g A c) (by kernel_rfl) (by kernel_rfl)
    (by exact ⟨congrArg Value.bool k0, ⟨ent Try.func24 rfl rfl, fun w' hw => c_rend (s := g) (A := A) (c := c) wf_g (ok.keep hw) hd⟩, congrArg Value.bool k1, congrArg Value.bool k2, ⟨ent Try.func23 rfl rfl, fun w' hw => c_rgap wf_s.max (EndS_bd _)⟩, congrArg Value.bool k3, trivial, congrArg Value.bool k1, ⟨ent Try.func23 rfl rfl, fun w' hw => c_rgap (EndS_bd _) wf_s.fin⟩, congrArg Value.bool k4, trivial, congrArg Value.bool k2, ⟨ent Try.func38 rfl rfl, fun w' hw => ret_eq (congrArg Value.bool k5) ((fun w' hw => c_rbefore wf_r.fin wf_g.ack) w' hw)⟩, ⟨ent Try.func42 rfl rfl, fun w' hw => c_rlast (s := g) (A := A) (c := c) wf_g (ok.keep hw) hbl⟩, ⟨ent Try.func38 rfl rfl, fun w' hw => ret_eq (congrArg Value.bool k6) ((fun w' hw => c_rbefore wf_r.fin (Last_bd _ wf_g)) w' hw)⟩, trivial, congrArg Value.bool k2, ⟨ent Try.func23 rfl rfl, fun w' hw => c_rgap wf_g.ack wf_r.fin⟩, congrArg Value.bool k7, trivial⟩)
set_option maxRecDepth 100000 in
theorem c_rwhy_12 {w : World} (s : Sd) (r : Sd) (g : Sg)  {A : Option Addr} {c : Nat} (ok : g.Ok A c w) (hd : g.data.size ≤ 1000000) (hbl : g.blocks.length ≤ 1000000) (wf_s : s.Wf) (wf_r : r.Wf) (wf_g : g.Wf) (h0 : (s.on) = true) (h1 : (r.on) = true) (h2 : (decide ((G s.max (EndS g)) > 1)) = true) (h3 : (decide ((G (EndS g) s.fin) > (IntKind.i64.wrap (r.win + 1)))) = false) (h4 : ((Go.bits .and .i64 g.flags 16) != 0) = true) (h5 : (decide (0 < G r.fin g.ack)) = false) (h6 : (decide (0 < G r.fin (Last g))) = false) (h7 : (decide ((G g.ack r.fin) > (IntKind.i64.wrap (s.win + 1)))) = false) : Calls Try.prog 15 #[s.V, r.V, g.V A c] w fun e w' => e = .returned (.int .i64 1) ∧ Below w.heap.size w w' :=
  calls_of_check rfl Try.func15 1000000 [s.V, r.V, g.V A c] [(.callp 19 [.av (.one (.v s.V)), .av (.one (.v r.V)), .av (.one (.v (g.V A c)))] (c_rwhy_hp0 s r g A c) (c_rwhy_up8 s r g A c) (.av (.one (.u 31 1))))] (by kernel_rfl) (by kernel_rfl)
    (by exact ⟨⟨ent Try.func19 rfl rfl, c_rwhy_s12 s r g ok hd hbl wf_s wf_r wf_g h4 h0 h1 h2 h3 h5 h6 h7⟩, trivial⟩)
set_option maxRecDepth 100000 in
theorem c_rwhy_s13 {w : World} (s : Sd) (r : Sd) (g : Sg)  {A : Option Addr} {c : Nat} (ok : g.Ok A c w) (hd : g.data.size ≤ 1000000) (hbl : g.blocks.length ≤ 1000000) (wf_s : s.Wf) (wf_r : r.Wf) (wf_g : g.Wf) (k0 : ((Go.bits .and .i64 g.flags 16) != 0) = false) (k1 : (s.on) = true) (k2 : (r.on) = true) (k3 : (decide ((G s.max (EndS g)) > 1)) = true) (k4 : (decide ((G (EndS g) s.fin) > (IntKind.i64.wrap (r.win + 1)))) = false) : PCalls Try.prog 19 [.av (.one (.v s.V)), .av (.one (.v r.V)), .av (.one (.v (g.V A c)))] (c_rwhy_hp0 s r g A c) (upsB (c_rwhy_hp0 s r g A c) (c_rwhy_up8 s r g A c)) (.av (.one (.u 31 1))) (w, []) :=
  pcalls_of_check rfl Try.func19 1000000 [.av (.one (.v s.V)), .av (.one (.v r.V)), .av (.one (.v (g.V A c)))] (c_rwhy_hp0 s r g A c) [(.cast 13 (.bool ((Go.bits .and .i64 g.flags 16) != 0)) (.bool false)),
    (.call 24 [g.V A c] (.int .u32 (EndS g))),
    (.cast 17 (.bool s.on) (.bool true)),
    (.cast 20 (.bool r.on) (.bool true)),
    (.call 23 [.int .u32 s.max, .int .u32 (EndS g)] (.int .i64 (G s.max (EndS g)))),
    (.cast 27 (.bool (decide ((G s.max (EndS g)) > 1))) (.bool true)),
    (.sched c_rwhy_T0 c_rwhy_B0 [(92, 0), (92, 1), (93, 5)] [] (.s 0 0 (.s 1 1 (.s 0 2 (.s 0 3 (.s 0 4 (.s 0 7 (.s 1 5 (.s 1 8 (.s 0 9 (.s 2 6 (.s 0 10 (.s 0 11 .e))))))))))))),
    (.cast 33 (.bool s.on) (.bool true)),
    (.call 23 [.int .u32 (EndS g), .int .u32 s.fin] (.int .i64 (G (EndS g) s.fin))),
    (.cast 42 (.bool (decide ((G (EndS g) s.fin) > (IntKind.i64.wrap (r.win + 1))))) (.bool false)),
    (.sched c_rwhy_T1 c_rwhy_B1 [(93, 0)] [] (.s 0 0 (.s 1 1 (.s 0 2 (.s 0 3 (.s 0 4 (.s 0 5 (.s 0 6 (.s 0 7 (.s 0 8 (.s 0 9 (.s 0 10 (.s 0 11 (.s 0 12 (.s 0 13 (.s 0 14 (.s 0 15 (.s 0 16 (.s 0 17 (.s 0 18 .e)))))))))))))))))))),
    (.cast 48 (.bool r.on) (.bool true)),
    (.sched c_rwhy_T2 c_rwhy_B2 [(93, 0)] [] (.s 0 0 (.s 1 1 (.s 0 2 (.s 0 3 (.s 0 4 (.s 0 5 (.s 0 6 (.s 0 7 (.s 0 8 (.s 0 9 (.s 0 10 (.s 0 11 (.s 0 12 (.s 0 13 (.s 0 14 (.s 0 15 .e))))))))))))))))),
    (.cast 70 (.bool r.on) (.bool true))] (c_rwhy_up8 s r g A c) (by kernel_rfl) (by kernel_rfl)
    (by exact ⟨congrArg Value.bool k0, ⟨ent Try.func24 rfl rfl, fun w' hw => c_rend (s := g) (A := A) (c := c) wf_g (ok.keep hw) hd⟩, congrArg Value.bool k1, congrArg Value.bool k2, ⟨ent Try.func23 rfl rfl, fun w' hw => c_rgap wf_s.max (EndS_bd _)⟩, congrArg Value.bool k3, trivial, congrArg Value.bool k1, ⟨ent Try.func23 rfl rfl, fun w' hw => c_rgap (EndS_bd _) wf_s.fin⟩, congrArg Value.bool k4, trivial, congrArg Value.bool k2, trivial, congrArg Value.bool k2, trivial⟩)
set_option maxRecDepth 100000 in
theorem c_rwhy_13 {w : World} (s : Sd) (r : Sd) (g : Sg)  {A : Option Addr} {c : Nat} (ok : g.Ok A c w) (hd : g.data.size ≤ 1000000) (hbl : g.blocks.length ≤ 1000000) (wf_s : s.Wf) (wf_r : r.Wf) (wf_g : g.Wf) (h0 : (s.on) = true) (h1 : (r.on) = true) (h2 : (decide ((G s.max (EndS g)) > 1)) = true) (h3 : (decide ((G (EndS g) s.fin) > (IntKind.i64.wrap (r.win + 1)))) = false) (h4 : ((Go.bits .and .i64 g.flags 16) != 0) = false) : Calls Try.prog 15 #[s.V, r.V, g.V A c] w fun e w' => e = .returned (.int .i64 1) ∧ Below w.heap.size w w' :=
  calls_of_check rfl Try.func15 1000000 [s.V, r.V, g.V A c] [(.callp 19 [.av (.one (.v s.V)), .av (.one (.v r.V)), .av (.one (.v (g.V A c)))] (c_rwhy_hp0 s r g A c) (c_rwhy_up8 s r g A c) (.av (.one (.u 31 1))))] (by kernel_rfl) (by kernel_rfl)
    (by exact ⟨⟨ent Try.func19 rfl rfl, c_rwhy_s13 s r g ok hd hbl wf_s wf_r wf_g h4 h0 h1 h2 h3⟩, trivial⟩)
set_option maxRecDepth 100000 in
theorem c_rwhy_s14 {w : World} (s : Sd) (r : Sd) (g : Sg)  {A : Option Addr} {c : Nat} (ok : g.Ok A c w) (hd : g.data.size ≤ 1000000) (hbl : g.blocks.length ≤ 1000000) (wf_s : s.Wf) (wf_r : r.Wf) (wf_g : g.Wf) (k0 : ((Go.bits .and .i64 g.flags 16) != 0) = true) (k1 : (s.on) = true) (k2 : (r.on) = true) (k3 : (decide ((G s.max (EndS g)) > 1)) = false) (k4 : (decide ((G (EndS g) s.fin) > (IntKind.i64.wrap (r.win + 1)))) = true) (k5 : (decide (0 < G r.fin g.ack)) = true) (k6 : (decide ((G g.ack r.fin) > (IntKind.i64.wrap (s.win + 1)))) = true) : PCalls Try.prog 19 [.av (.one (.v s.V)), .av (.one (.v r.V)), .av (.one (.v (g.V A c)))] (c_rwhy_hp0 s r g A c) (upsB (c_rwhy_hp0 s r g A c) (c_rwhy_up9 s r g A c)) (.av (.one (.u 87 3))) (w, []) :=
  pcalls_of_check rfl Try.func19 1000000 [.av (.one (.v s.V)), .av (.one (.v r.V)), .av (.one (.v (g.V A c)))] (c_rwhy_hp0 s r g A c) [(.cast 13 (.bool ((Go.bits .and .i64 g.flags 16) != 0)) (.bool true)),
    (.call 24 [g.V A c] (.int .u32 (EndS g))),
    (.cast 17 (.bool s.on) (.bool true)),
    (.cast 20 (.bool r.on) (.bool true)),
    (.call 23 [.int .u32 s.max, .int .u32 (EndS g)] (.int .i64 (G s.max (EndS g)))),
    (.cast 27 (.bool (decide ((G s.max (EndS g)) > 1))) (.bool false)),
    (.sched c_rwhy_T0 c_rwhy_B0 [(92, 0), (92, 1), (93, 5)] [] (.s 0 0 (.s 1 1 (.s 0 2 (.s 0 3 (.s 0 4 (.s 0 7 (.s 1 5 (.s 1 8 (.s 0 9 (.s 2 6 (.s 0 10 (.s 0 11 .e))))))))))))),
    (.cast 33 (.bool s.on) (.bool true)),
    (.call 23 [.int .u32 (EndS g), .int .u32 s.fin] (.int .i64 (G (EndS g) s.fin))),
    (.cast 42 (.bool (decide ((G (EndS g) s.fin) > (IntKind.i64.wrap (r.win + 1))))) (.bool true)),
    (.sched c_rwhy_T1 c_rwhy_B1 [(93, 0), (93, 1), (94, 3)] [] (.s 0 0 (.s 1 1 (.s 0 2 (.s 0 3 (.s 0 4 (.s 0 5 (.s 0 6 (.s 0 8 (.s 1 7 (.s 1 9 (.s 2 10 (.s 0 11 (.s 0 12 (.s 0 13 (.s 0 14 (.s 0 15 (.s 0 16 (.s 0 17 (.s 0 18 .e)))))))))))))))))))),
    (.cast 48 (.bool r.on) (.bool true)),
    (.call 38 [.int .u32 r.fin, .int .u32 g.ack] (.bool true)),
    (.sched c_rwhy_T2 c_rwhy_B2 [(92, 5), (93, 0), (93, 1), (94, 3)] [] (.s 0 0 (.s 1 1 (.s 0 2 (.s 0 3 (.s 0 4 (.s 0 5 (.s 0 6 (.s 0 8 (.s 0 11 (.s 1 7 (.s 1 9 (.s 1 12 (.s 0 13 (.s 2 10 (.s 0 14 (.s 0 15 .e))))))))))))))))),
    (.cast 70 (.bool r.on) (.bool true)),
    (.call 23 [.int .u32 g.ack, .int .u32 r.fin] (.int .i64 (G g.ack r.fin))),
    (.cast 83 (.bool (decide ((G g.ack r.fin) > (IntKind.i64.wrap (s.win + 1))))) (.bool true))] (c_rwhy_up9 s r g A c) (by kernel_rfl) (by kernel_rfl)
    (by exact ⟨congrArg Value.bool k0, ⟨ent Try.func24 rfl rfl, fun w' hw => c_rend (s := g) (A := A) (c := c) wf_g (ok.keep hw) hd⟩, congrArg Value.bool k1, congrArg Value.bool k2, ⟨ent Try.func23 rfl rfl, fun w' hw => c_rgap wf_s.max (EndS_bd _)⟩, congrArg Value.bool k3, trivial, congrArg Value.bool k1, ⟨ent Try.func23 rfl rfl, fun w' hw => c_rgap (EndS_bd _) wf_s.fin⟩, congrArg Value.bool k4, trivial, congrArg Value.bool k2, ⟨ent Try.func38 rfl rfl, fun w' hw => ret_eq (congrArg Value.bool k5) ((fun w' hw => c_rbefore wf_r.fin wf_g.ack) w' hw)⟩, trivial, congrArg Value.bool k2, ⟨ent Try.func23 rfl rfl, fun w' hw => c_rgap wf_g.ack wf_r.fin⟩, congrArg Value.bool k6, trivial⟩)
set_option maxRecDepth 100000 in
theorem c_rwhy_14 {w : World} (s : Sd) (r : Sd) (g : Sg)  {A : Option Addr} {c : Nat} (ok : g.Ok A c w) (hd : g.data.size ≤ 1000000) (hbl : g.blocks.length ≤ 1000000) (wf_s : s.Wf) (wf_r : r.Wf) (wf_g : g.Wf) (h0 : (s.on) = true) (h1 : (r.on) = true) (h2 : (decide ((G s.max (EndS g)) > 1)) = false) (h3 : (decide ((G (EndS g) s.fin) > (IntKind.i64.wrap (r.win + 1)))) = true) (h4 : ((Go.bits .and .i64 g.flags 16) != 0) = true) (h5 : (decide (0 < G r.fin g.ack)) = true) (h6 : (decide ((G g.ack r.fin) > (IntKind.i64.wrap (s.win + 1)))) = true) : Calls Try.prog 15 #[s.V, r.V, g.V A c] w fun e w' => e = .returned (.int .i64 2) ∧ Below w.heap.size w w' :=
  calls_of_check rfl Try.func15 1000000 [s.V, r.V, g.V A c] [(.callp 19 [.av (.one (.v s.V)), .av (.one (.v r.V)), .av (.one (.v (g.V A c)))] (c_rwhy_hp0 s r g A c) (c_rwhy_up9 s r g A c) (.av (.one (.u 87 3))))] (by kernel_rfl) (by kernel_rfl)
    (by exact ⟨⟨ent Try.func19 rfl rfl, c_rwhy_s14 s r g ok hd hbl wf_s wf_r wf_g h4 h0 h1 h2 h3 h5 h6⟩, trivial⟩)
set_option maxRecDepth 100000 in
theorem c_rwhy_s15 {w : World} (s : Sd) (r : Sd) (g : Sg)  {A : Option Addr} {c : Nat} (ok : g.Ok A c w) (hd : g.data.size ≤ 1000000) (hbl : g.blocks.length ≤ 1000000) (wf_s : s.Wf) (wf_r : r.Wf) (wf_g : g.Wf) (k0 : ((Go.bits .and .i64 g.flags 16) != 0) = true) (k1 : (s.on) = true) (k2 : (r.on) = true) (k3 : (decide ((G s.max (EndS g)) > 1)) = false) (k4 : (decide ((G (EndS g) s.fin) > (IntKind.i64.wrap (r.win + 1)))) = true) (k5 : (decide (0 < G r.fin g.ack)) = true) (k6 : (decide ((G g.ack r.fin) > (IntKind.i64.wrap (s.win + 1)))) = false) : PCalls Try.prog 19 [.av (.one (.v s.V)), .av (.one (.v r.V)), .av (.one (.v (g.V A c)))] (c_rwhy_hp0 s r g A c) (upsB (c_rwhy_hp0 s r g A c) (c_rwhy_up10 s r g A c)) (.av (.one (.u 68 2))) (w, []) :=
  pcalls_of_check rfl Try.func19 1000000 [.av (.one (.v s.V)), .av (.one (.v r.V)), .av (.one (.v (g.V A c)))] (c_rwhy_hp0 s r g A c) [(.cast 13 (.bool ((Go.bits .and .i64 g.flags 16) != 0)) (.bool true)),
    (.call 24 [g.V A c] (.int .u32 (EndS g))),
    (.cast 17 (.bool s.on) (.bool true)),
    (.cast 20 (.bool r.on) (.bool true)),
    (.call 23 [.int .u32 s.max, .int .u32 (EndS g)] (.int .i64 (G s.max (EndS g)))),
    (.cast 27 (.bool (decide ((G s.max (EndS g)) > 1))) (.bool false)),
    (.sched c_rwhy_T0 c_rwhy_B0 [(92, 0), (92, 1), (93, 5)] [] (.s 0 0 (.s 1 1 (.s 0 2 (.s 0 3 (.s 0 4 (.s 0 7 (.s 1 5 (.s 1 8 (.s 0 9 (.s 2 6 (.s 0 10 (.s 0 11 .e))))))))))))),
    (.cast 33 (.bool s.on) (.bool true)),
    (.call 23 [.int .u32 (EndS g), .int .u32 s.fin] (.int .i64 (G (EndS g) s.fin))),
    (.cast 42 (.bool (decide ((G (EndS g) s.fin) > (IntKind.i64.wrap (r.win + 1))))) (.bool true)),
    (.sched c_rwhy_T1 c_rwhy_B1 [(93, 0), (93, 1), (94, 3)] [] (.s 0 0 (.s 1 1 (.s 0 2 (.s 0 3 (.s 0 4 (.s 0 5 (.s 0 6 (.s 0 8 (.s 1 7 (.s 1 9 (.s 2 10 (.s 0 11 (.s 0 12 (.s 0 13 (.s 0 14 (.s 0 15 (.s 0 16 (.s 0 17 (.s 0 18 .e)))))))))))))))))))),
    (.cast 48 (.bool r.on) (.bool true)),
    (.call 38 [.int .u32 r.fin, .int .u32 g.ack] (.bool true)),
    (.sched c_rwhy_T2 c_rwhy_B2 [(92, 5), (93, 0), (93, 1), (94, 3)] [] (.s 0 0 (.s 1 1 (.s 0 2 (.s 0 3 (.s 0 4 (.s 0 5 (.s 0 6 (.s 0 8 (.s 0 11 (.s 1 7 (.s 1 9 (.s 1 12 (.s 0 13 (.s 2 10 (.s 0 14 (.s 0 15 .e))))))))))))))))),
    (.cast 70 (.bool r.on) (.bool true)),
    (.call 23 [.int .u32 g.ack, .int .u32 r.fin] (.int .i64 (G g.ack r.fin))),
    (.cast 83 (.bool (decide ((G g.ack r.fin) > (IntKind.i64.wrap (s.win + 1))))) (.bool false))] (c_rwhy_up10 s r g A c) (by kernel_rfl) (by kernel_rfl)
    (by exact ⟨congrArg Value.bool k0, ⟨ent Try.func24 rfl rfl, fun w' hw => c_rend (s := g) (A := A) (c := c) wf_g (ok.keep hw) hd⟩, congrArg Value.bool k1, congrArg Value.bool k2, ⟨ent Try.func23 rfl rfl, fun w' hw => c_rgap wf_s.max (EndS_bd _)⟩, congrArg Value.bool k3, trivial, congrArg Value.bool k1, ⟨ent Try.func23 rfl rfl, fun w' hw => c_rgap (EndS_bd _) wf_s.fin⟩, congrArg Value.bool k4, trivial, congrArg Value.bool k2, ⟨ent Try.func38 rfl rfl, fun w' hw => ret_eq (congrArg Value.bool k5) ((fun w' hw => c_rbefore wf_r.fin wf_g.ack) w' hw)⟩, trivial, congrArg Value.bool k2, ⟨ent Try.func23 rfl rfl, fun w' hw => c_rgap wf_g.ack wf_r.fin⟩, congrArg Value.bool k6, trivial⟩)
set_option maxRecDepth 100000 in
theorem c_rwhy_15 {w : World} (s : Sd) (r : Sd) (g : Sg)  {A : Option Addr} {c : Nat} (ok : g.Ok A c w) (hd : g.data.size ≤ 1000000) (hbl : g.blocks.length ≤ 1000000) (wf_s : s.Wf) (wf_r : r.Wf) (wf_g : g.Wf) (h0 : (s.on) = true) (h1 : (r.on) = true) (h2 : (decide ((G s.max (EndS g)) > 1)) = false) (h3 : (decide ((G (EndS g) s.fin) > (IntKind.i64.wrap (r.win + 1)))) = true) (h4 : ((Go.bits .and .i64 g.flags 16) != 0) = true) (h5 : (decide (0 < G r.fin g.ack)) = true) (h6 : (decide ((G g.ack r.fin) > (IntKind.i64.wrap (s.win + 1)))) = false) : Calls Try.prog 15 #[s.V, r.V, g.V A c] w fun e w' => e = .returned (.int .i64 2) ∧ Below w.heap.size w w' :=
  calls_of_check rfl Try.func15 1000000 [s.V, r.V, g.V A c] [(.callp 19 [.av (.one (.v s.V)), .av (.one (.v r.V)), .av (.one (.v (g.V A c)))] (c_rwhy_hp0 s r g A c) (c_rwhy_up10 s r g A c) (.av (.one (.u 68 2))))] (by kernel_rfl) (by kernel_rfl)
    (by exact ⟨⟨ent Try.func19 rfl rfl, c_rwhy_s15 s r g ok hd hbl wf_s wf_r wf_g h4 h0 h1 h2 h3 h5 h6⟩, trivial⟩)
set_option maxRecDepth 100000 in
theorem c_rwhy_s16 {w : World} (s : Sd) (r : Sd) (g : Sg)  {A : Option Addr} {c : Nat} (ok : g.Ok A c w) (hd : g.data.size ≤ 1000000) (hbl : g.blocks.length ≤ 1000000) (wf_s : s.Wf) (wf_r : r.Wf) (wf_g : g.Wf) (k0 : ((Go.bits .and .i64 g.flags 16) != 0) = true) (k1 : (s.on) = true) (k2 : (r.on) = true) (k3 : (decide ((G s.max (EndS g)) > 1)) = false) (k4 : (decide ((G (EndS g) s.fin) > (IntKind.i64.wrap (r.win + 1)))) = true) (k5 : (decide (0 < G r.fin g.ack)) = false) (k6 : (decide (0 < G r.fin (Last g))) = true) (k7 : (decide ((G g.ack r.fin) > (IntKind.i64.wrap (s.win + 1)))) = true) : PCalls Try.prog 19 [.av (.one (.v s.V)), .av (.one (.v r.V)), .av (.one (.v (g.V A c)))] (c_rwhy_hp0 s r g A c) (upsB (c_rwhy_hp0 s r g A c) (c_rwhy_up9 s r g A c)) (.av (.one (.u 87 3))) (w, []) :=
  pcalls_of_check rfl Try.func19 1000000 [.av (.one (.v s.V)), .av (.one (.v r.V)), .av (.one (.v (g.V A c)))] (c_rwhy_hp0 s r g A c) [(.cast 13 (.bool ((Go.bits .and .i64 g.flags 16) != 0)) (.bool true)),
    (.call 24 [g.V A c] (.int .u32 (EndS g))),
    (.cast 17 (.bool s.on) (.bool true)),
    (.cast 20 (.bool r.on) (.bool true)),
    (.call 23 [.int .u32 s.max, .int .u32 (EndS g)] (.int .i64 (G s.max (EndS g)))),
    (.cast 27 (.bool (decide ((G s.max (EndS g)) > 1))) (.bool false)),
    (.sched c_rwhy_T0 c_rwhy_B0 [(92, 0), (92, 1), (93, 5)] [] (.s 0 0 (.s 1 1 (.s 0 2 (.s 0 3 (.s 0 4 (.s 0 7 (.s 1 5 (.s 1 8 (.s 0 9 (.s 2 6 (.s 0 10 (.s 0 11 .e))))))))))))),
    (.cast 33 (.bool s.on) (.bool true)),
    (.call 23 [.int .u32 (EndS g), .int .u32 s.fin] (.int .i64 (G (EndS g) s.fin))),
    (.cast 42 (.bool (decide ((G (EndS g) s.fin) > (IntKind.i64.wrap (r.win + 1))))) (.bool true)),
    (.sched c_rwhy_T1 c_rwhy_B1 [(93, 0), (93, 1), (94, 0), (94, 1), (94, 2), (94, 3), (94, 4), (94, 5), (94, 6), (94, 7), (94, 8), (94, 9), (94, 10), (94, 11), (94, 12), (94, 13), (94, 14)] [] (.s 0 0 (.s 1 1 (.s 0 2 (.s 0 3 (.s 0 4 (.s 0 5 (.s 0 6 (.s 0 8 (.s 1 7 (.s 1 9 (.s 2 10 (.s 0 11 (.s 0 12 (.s 1 13 (.s 1 14 (.s 2 15 (.s 2 16 (.s 0 17 (.s 0 18 .e)))))))))))))))))))),
    (.cast 48 (.bool r.on) (.bool true)),
    (.call 38 [.int .u32 r.fin, .int .u32 g.ack] (.bool false)),
    (.call 42 [g.V A c] (.int .u32 (Last g))),
    (.call 38 [.int .u32 r.fin, .int .u32 (Last g)] (.bool true)),
    (.sched c_rwhy_T2 c_rwhy_B2 [(92, 5), (93, 0), (93, 1), (94, 3)] [] (.s 0 0 (.s 1 1 (.s 0 2 (.s 0 3 (.s 0 4 (.s 0 5 (.s 0 6 (.s 0 8 (.s 0 11 (.s 1 7 (.s 1 9 (.s 1 12 (.s 0 13 (.s 2 10 (.s 0 14 (.s 0 15 .e))))))))))))))))),
    (.cast 70 (.bool r.on) (.bool true)),
    (.call 23 [.int .u32 g.ack, .int .u32 r.fin] (.int .i64 (G g.ack r.fin))),
    (.cast 83 (.bool (decide ((G g.ack r.fin) > (IntKind.i64.wrap (s.win + 1))))) (.bool true))] (c_rwhy_up9 s r g A c) (by kernel_rfl) (by kernel_rfl)
    (by exact ⟨congrArg Value.bool k0, ⟨ent Try.func24 rfl rfl, fun w' hw => c_rend (s := g) (A := A) (c := c) wf_g (ok.keep hw) hd⟩, congrArg Value.bool k1, congrArg Value.bool k2, ⟨ent Try.func23 rfl rfl, fun w' hw => c_rgap wf_s.max (EndS_bd _)⟩, congrArg Value.bool k3, trivial, congrArg Value.bool k1, ⟨ent Try.func23 rfl rfl, fun w' hw => c_rgap (EndS_bd _) wf_s.fin⟩, congrArg Value.bool k4, trivial, congrArg Value.bool k2, ⟨ent Try.func38 rfl rfl, fun w' hw => ret_eq (congrArg Value.bool k5) ((fun w' hw => c_rbefore wf_r.fin wf_g.ack) w' hw)⟩, ⟨ent Try.func42 rfl rfl, fun w' hw => c_rlast (s := g) (A := A) (c := c) wf_g (ok.keep hw) hbl⟩, ⟨ent Try.func38 rfl rfl, fun w' hw => ret_eq (congrArg Value.bool k6) ((fun w' hw => c_rbefore wf_r.fin (Last_bd _ wf_g)) w' hw)⟩, trivial, congrArg Value.bool k2, ⟨ent Try.func23 rfl rfl, fun w' hw => c_rgap wf_g.ack wf_r.fin⟩, congrArg Value.bool k7, trivial⟩)
set_option maxRecDepth 100000 in
theorem c_rwhy_16 {w : World} (s : Sd) (r : Sd) (g : Sg)  {A : Option Addr} {c : Nat} (ok : g.Ok A c w) (hd : g.data.size ≤ 1000000) (hbl : g.blocks.length ≤ 1000000) (wf_s : s.Wf) (wf_r : r.Wf) (wf_g : g.Wf) (h0 : (s.on) = true) (h1 : (r.on) = true) (h2 : (decide ((G s.max (EndS g)) > 1)) = false) (h3 : (decide ((G (EndS g) s.fin) > (IntKind.i64.wrap (r.win + 1)))) = true) (h4 : ((Go.bits .and .i64 g.flags 16) != 0) = true) (h5 : (decide (0 < G r.fin g.ack)) = false) (h6 : (decide (0 < G r.fin (Last g))) = true) (h7 : (decide ((G g.ack r.fin) > (IntKind.i64.wrap (s.win + 1)))) = true) : Calls Try.prog 15 #[s.V, r.V, g.V A c] w fun e w' => e = .returned (.int .i64 2) ∧ Below w.heap.size w w' :=
  calls_of_check rfl Try.func15 1000000 [s.V, r.V, g.V A c] [(.callp 19 [.av (.one (.v s.V)), .av (.one (.v r.V)), .av (.one (.v (g.V A c)))] (c_rwhy_hp0 s r g A c) (c_rwhy_up9 s r g A c) (.av (.one (.u 87 3))))] (by kernel_rfl) (by kernel_rfl)
    (by exact ⟨⟨ent Try.func19 rfl rfl, c_rwhy_s16 s r g ok hd hbl wf_s wf_r wf_g h4 h0 h1 h2 h3 h5 h6 h7⟩, trivial⟩)
set_option maxRecDepth 100000 in
theorem c_rwhy_s17 {w : World} (s : Sd) (r : Sd) (g : Sg)  {A : Option Addr} {c : Nat} (ok : g.Ok A c w) (hd : g.data.size ≤ 1000000) (hbl : g.blocks.length ≤ 1000000) (wf_s : s.Wf) (wf_r : r.Wf) (wf_g : g.Wf) (k0 : ((Go.bits .and .i64 g.flags 16) != 0) = true) (k1 : (s.on) = true) (k2 : (r.on) = true) (k3 : (decide ((G s.max (EndS g)) > 1)) = false) (k4 : (decide ((G (EndS g) s.fin) > (IntKind.i64.wrap (r.win + 1)))) = true) (k5 : (decide (0 < G r.fin g.ack)) = false) (k6 : (decide (0 < G r.fin (Last g))) = true) (k7 : (decide ((G g.ack r.fin) > (IntKind.i64.wrap (s.win + 1)))) = false) : PCalls Try.prog 19 [.av (.one (.v s.V)), .av (.one (.v r.V)), .av (.one (.v (g.V A c)))] (c_rwhy_hp0 s r g A c) (upsB (c_rwhy_hp0 s r g A c) (c_rwhy_up10 s r g A c)) (.av (.one (.u 68 2))) (w, []) :=
  pcalls_of_check rfl Try.func19 1000000 [.av (.one (.v s.V)), .av (.one (.v r.V)), .av (.one (.v (g.V A c)))] (c_rwhy_hp0 s r g A c) [(.cast 13 (.bool ((Go.bits .and .i64 g.flags 16) != 0)) (.bool true)),
    (.call 24 [g.V A c] (.int .u32 (EndS g))),
    (.cast 17 (.bool s.on) (.bool true)),
    (.cast 20 (.bool r.on) (.bool true)),
    (.call 23 [.int .u32 s.max, .int .u32 (EndS g)] (.int .i64 (G s.max (EndS g)))),
    (.cast 27 (.bool (decide ((G s.max (EndS g)) > 1))) (.bool false)),
    (.sched c_rwhy_T0 c_rwhy_B0 [(92, 0), (92, 1), (93, 5)] [] (.s 0 0 (.s 1 1 (.s 0 2 (.s 0 3 (.s 0 4 (.s 0 7 (.s 1 5 (.s 1 8 (.s 0 9 (.s 2 6 (.s 0 10 (.s 0 11 .e))))))))))))),
    (.cast 33 (.bool s.on) (.bool true)),
    (.call 23 [.int .u32 (EndS g), .int .u32 s.fin] (.int .i64 (G (EndS g) s.fin))),
    (.cast 42 (.bool (decide ((G (EndS g) s.fin) > (IntKind.i64.wrap (r.win + 1))))) (.bool true)),
    (.sched c_rwhy_T1 c_rwhy_B1 [(93, 0), (93, 1), (94, 0), (94, 1), (94, 2), (94, 3), (94, 4), (94, 5), (94, 6), (94, 7), (94, 8), (94, 9), (94, 10), (94, 11), (94, 12), (94, 13), (94, 14)] [] (.s 0 0 (.s 1 1 (.s 0 2 (.s 0 3 (.s 0 4 (.s 0 5 (.s 0 6 (.s 0 8 (.s 1 7 (.s 1 9 (.s 2 10 (.s 0 11 (.s 0 12 (.s 1 13 (.s 1 14 (.s 2 15 (.s 2 16 (.s 0 17 (.s 0 18 .e)))))))))))))))))))),
    (.cast 48 (.bool r.on) (.bool true)),
    (.call 38 [.int .u32 r.fin, .int .u32 g.ack] (.bool false)),
    (.call 42 [g.V A c] (.int .u32 (Last g))),
    (.call 38 [.int .u32 r.fin, .int .u32 (Last g)] (.bool true)),
    (.sched c_rwhy_T2 c_rwhy_B2 [(92, 5), (93, 0), (93, 1), (94, 3)] [] (.s 0 0 (.s 1 1 (.s 0 2 (.s 0 3 (.s 0 4 (.s 0 5 (.s 0 6 (.s 0 8 (.s 0 11 (.s 1 7 (.s 1 9 (.s 1 12 (.s 0 13 (.s 2 10 (.s 0 14 (.s 0 15 .e))))))))))))))))),
    (.cast 70 (.bool r.on) (.bool true)),
    (.call 23 [.int .u32 g.ack, .int .u32 r.fin] (.int .i64 (G g.ack r.fin))),
    (.cast 83 (.bool (decide ((G g.ack r.fin) > (IntKind.i64.wrap (s.win + 1))))) (.bool false))] (c_rwhy_up10 s r g A c) (by kernel_rfl) (by kernel_rfl)
    (by exact ⟨congrArg Value.bool k0, ⟨ent Try.func24 rfl rfl, fun w' hw => c_rend (s := g) (A := A) (c := c) wf_g (ok.keep hw) hd⟩, congrArg Value.bool k1, congrArg Value.bool k2, ⟨ent Try.func23 rfl rfl, fun w' hw => c_rgap wf_s.max (EndS_bd _)⟩, congrArg Value.bool k3, trivial, congrArg Value.bool k1, ⟨ent Try.func23 rfl rfl, fun w' hw => c_rgap (EndS_bd _) wf_s.fin⟩, congrArg Value.bool k4, trivial, congrArg Value.bool k2, ⟨ent Try.func38 rfl rfl, fun w' hw => ret_eq (congrArg Value.bool k5) ((fun w' hw => c_rbefore wf_r.fin wf_g.ack) w' hw)⟩, ⟨ent Try.func42 rfl rfl, fun w' hw => c_rlast (s := g) (A := A) (c := c) wf_g (ok.keep hw) hbl⟩, ⟨ent Try.func38 rfl rfl, fun w' hw => ret_eq (congrArg Value.bool k6) ((fun w' hw => c_rbefore wf_r.fin (Last_bd _ wf_g)) w' hw)⟩, trivial, congrArg Value.bool k2, ⟨ent Try.func23 rfl rfl, fun w' hw => c_rgap wf_g.ack wf_r.fin⟩, congrArg Value.bool k7, trivial⟩)
set_option maxRecDepth 100000 in
theorem c_rwhy_17 {w : World} (s : Sd) (r : Sd) (g : Sg)  {A : Option Addr} {c : Nat} (ok : g.Ok A c w) (hd : g.data.size ≤ 1000000) (hbl : g.blocks.length ≤ 1000000) (wf_s : s.Wf) (wf_r : r.Wf) (wf_g : g.Wf) (h0 : (s.on) = true) (h1 : (r.on) = true) (h2 : (decide ((G s.max (EndS g)) > 1)) = false) (h3 : (decide ((G (EndS g) s.fin) > (IntKind.i64.wrap (r.win + 1)))) = true) (h4 : ((Go.bits .and .i64 g.flags 16) != 0) = true) (h5 : (decide (0 < G r.fin g.ack)) = false) (h6 : (decide (0 < G r.fin (Last g))) = true) (h7 : (decide ((G g.ack r.fin) > (IntKind.i64.wrap (s.win + 1)))) = false) : Calls Try.prog 15 #[s.V, r.V, g.V A c] w fun e w' => e = .returned (.int .i64 2) ∧ Below w.heap.size w w' :=
  calls_of_check rfl Try.func15 1000000 [s.V, r.V, g.V A c] [(.callp 19 [.av (.one (.v s.V)), .av (.one (.v r.V)), .av (.one (.v (g.V A c)))] (c_rwhy_hp0 s r g A c) (c_rwhy_up10 s r g A c) (.av (.one (.u 68 2))))] (by kernel_rfl) (by kernel_rfl)
    (by exact ⟨⟨ent Try.func19 rfl rfl, c_rwhy_s17 s r g ok hd hbl wf_s wf_r wf_g h4 h0 h1 h2 h3 h5 h6 h7⟩, trivial⟩)
set_option maxRecDepth 100000 in
theorem c_rwhy_s18 {w : World} (s : Sd) (r : Sd) (g : Sg)  {A : Option Addr} {c : Nat} (ok : g.Ok A c w) (hd : g.data.size ≤ 1000000) (hbl : g.blocks.length ≤ 1000000) (wf_s : s.Wf) (wf_r : r.Wf) (wf_g : g.Wf) (k0 : ((Go.bits .and .i64 g.flags 16) != 0) = true) (k1 : (s.on) = true) (k2 : (r.on) = true) (k3 : (decide ((G s.max (EndS g)) > 1)) = false) (k4 : (decide ((G (EndS g) s.fin) > (IntKind.i64.wrap (r.win + 1)))) = true) (k5 : (decide (0 < G r.fin g.ack)) = false) (k6 : (decide (0 < G r.fin (Last g))) = false) (k7 : (decide ((G g.ack r.fin) > (IntKind.i64.wrap (s.win + 1)))) = true) : PCalls Try.prog 19 [.av (.one (.v s.V)), .av (.one (.v r.V)), .av (.one (.v (g.V A c)))] (c_rwhy_hp0 s r g A c) (upsB (c_rwhy_hp0 s r g A c) (c_rwhy_up11 s r g A c)) (.av (.one (.u 87 2))) (w, []) :=
  pcalls_of_check rfl Try.func19 1000000 [.av (.one (.v s.V)), .av (.one (.v r.V)), .av (.one (.v (g.V A c)))] (c_rwhy_hp0 s r g A c) [(.cast 13 (.bool ((Go.bits .and .i64 g.flags 16) != 0)) (.bool true)),
    (.call 24 [g.V A c] (.int .u32 (EndS g))),
    (.cast 17 (.bool s.on) (.bool true)),
    (.cast 20 (.bool r.on) (.bool true)),
    (.call 23 [.int .u32 s.max, .int .u32 (EndS g)] (.int .i64 (G s.max (EndS g)))),
    (.cast 27 (.bool (decide ((G s.max (EndS g)) > 1))) (.bool false)),
    (.sched c_rwhy_T0 c_rwhy_B0 [(92, 0), (92, 1), (93, 5)] [] (.s 0 0 (.s 1 1 (.s 0 2 (.s 0 3 (.s 0 4 (.s 0 7 (.s 1 5 (.s 1 8 (.s 0 9 (.s 2 6 (.s 0 10 (.s 0 11 .e))))))))))))),
    (.cast 33 (.bool s.on) (.bool true)),
    (.call 23 [.int .u32 (EndS g), .int .u32 s.fin] (.int .i64 (G (EndS g) s.fin))),
    (.cast 42 (.bool (decide ((G (EndS g) s.fin) > (IntKind.i64.wrap (r.win + 1))))) (.bool true)),
    (.sched c_rwhy_T1 c_rwhy_B1 [(93, 0), (93, 1), (94, 0), (94, 1), (94, 2), (94, 3), (94, 4), (94, 5), (94, 6), (94, 7), (94, 8), (94, 9), (94, 10), (94, 11), (94, 12), (94, 13), (94, 14)] [] (.s 0 0 (.s 1 1 (.s 0 2 (.s 0 3 (.s 0 4 (.s 0 5 (.s 0 6 (.s 0 8 (.s 1 7 (.s 1 9 (.s 2 10 (.s 0 11 (.s 0 12 (.s 1 13 (.s 1 14 (.s 2 15 (.s 2 16 (.s 0 17 (.s 0 18 .e)))))))))))))))))))),
    (.cast 48 (.bool r.on) (.bool true)),
    (.call 38 [.int .u32 r.fin, .int .u32 g.ack] (.bool false)),
    (.call 42 [g.V A c] (.int .u32 (Last g))),
    (.call 38 [.int .u32 r.fin, .int .u32 (Last g)] (.bool false)),
    (.sched c_rwhy_T2 c_rwhy_B2 [(92, 5), (93, 0), (93, 1), (94, 3)] [] (.s 0 0 (.s 1 1 (.s 0 2 (.s 0 3 (.s 0 4 (.s 0 5 (.s 0 6 (.s 0 8 (.s 0 11 (.s 1 7 (.s 1 9 (.s 1 12 (.s 0 13 (.s 2 10 (.s 0 14 (.s 0 15 .e))))))))))))))))),
    (.cast 70 (.bool r.on) (.bool true)),
    (.call 23 [.int .u32 g.ack, .int .u32 r.fin] (.int .i64 (G g.ack r.fin))),
    (.cast 83 (.bool (decide ((G g.ack r.fin) > (IntKind.i64.wrap (s.win + 1))))) (.bool true))] (c_rwhy_up11 s r g A c) (by kernel_rfl) (by kernel_rfl)
    (by exact ⟨congrArg Value.bool k0, ⟨ent Try.func24 rfl rfl, fun w' hw => c_rend (s := g) (A := A) (c := c) wf_g (ok.keep hw) hd⟩, congrArg Value.bool k1, congrArg Value.bool k2, ⟨ent Try.func23 rfl rfl, fun w' hw => c_rgap wf_s.max (EndS_bd _)⟩, congrArg Value.bool k3, trivial, congrArg Value.bool k1, ⟨ent Try.func23 rfl rfl, fun w' hw => c_rgap (EndS_bd _) wf_s.fin⟩, congrArg Value.bool k4, trivial, congrArg Value.bool k2, ⟨ent Try.func38 rfl rfl, fun w' hw => ret_eq (congrArg Value.bool k5) ((fun w' hw => c_rbefore wf_r.fin wf_g.ack) w' hw)⟩, ⟨ent Try.func42 rfl rfl, fun w' hw => c_rlast (s := g) (A := A) (c := c) wf_g (ok.keep hw) hbl⟩, ⟨ent Try.func38 rfl rfl, fun w' hw => ret_eq (congrArg Value.bool k6) ((fun w' hw => c_rbefore wf_r.fin (Last_bd _ wf_g)) w' hw)⟩, trivial, congrArg Value.bool k2, ⟨ent Try.func23 rfl rfl, fun w' hw => c_rgap wf_g.ack wf_r.fin⟩, congrArg Value.bool k7, trivial⟩)
set_option maxRecDepth 100000 in
theorem c_rwhy_18 {w : World} (s : Sd) (r : Sd) (g : Sg)  {A : Option Addr} {c : Nat} (ok : g.Ok A c w) (hd : g.data.size ≤ 1000000) (hbl : g.blocks.length ≤ 1000000) (wf_s : s.Wf) (wf_r : r.Wf) (wf_g : g.Wf) (h0 : (s.on) = true) (h1 : (r.on) = true) (h2 : (decide ((G s.max (EndS g)) > 1)) = false) (h3 : (decide ((G (EndS g) s.fin) > (IntKind.i64.wrap (r.win + 1)))) = true) (h4 : ((Go.bits .and .i64 g.flags 16) != 0) = true) (h5 : (decide (0 < G r.fin g.ack)) = false) (h6 : (decide (0 < G r.fin (Last g))) = false) (h7 : (decide ((G g.ack r.fin) > (IntKind.i64.wrap (s.win + 1)))) = true) : Calls Try.prog 15 #[s.V, r.V, g.V A c] w fun e w' => e = .returned (.int .i64 2) ∧ Below w.heap.size w w' :=
  calls_of_check rfl Try.func15 1000000 [s.V, r.V, g.V A c] [(.callp 19 [.av (.one (.v s.V)), .av (.one (.v r.V)), .av (.one (.v (g.V A c)))] (c_rwhy_hp0 s r g A c) (c_rwhy_up11 s r g A c) (.av (.one (.u 87 2))))] (by kernel_rfl) (by kernel_rfl)
    (by exact ⟨⟨ent Try.func19 rfl rfl, c_rwhy_s18 s r g ok hd hbl wf_s wf_r wf_g h4 h0 h1 h2 h3 h5 h6 h7⟩, trivial⟩)
set_option maxRecDepth 100000 in
theorem c_rwhy_s19 {w : World} (s : Sd) (r : Sd) (g : Sg)  {A : Option Addr} {c : Nat} (ok : g.Ok A c w) (hd : g.data.size ≤ 1000000) (hbl : g.blocks.length ≤ 1000000) (wf_s : s.Wf) (wf_r : r.Wf) (wf_g : g.Wf) (k0 : ((Go.bits .and .i64 g.flags 16) != 0) = true) (k1 : (s.on) = true) (k2 : (r.on) = true) (k3 : (decide ((G s.max (EndS g)) > 1)) = false) (k4 : (decide ((G (EndS g) s.fin) > (IntKind.i64.wrap (r.win + 1)))) = true) (k5 : (decide (0 < G r.fin g.ack)) = false) (k6 : (decide (0 < G r.fin (Last g))) = false) (k7 : (decide ((G g.ack r.fin) > (IntKind.i64.wrap (s.win + 1)))) = false) : PCalls Try.prog 19 [.av (.one (.v s.V)), .av (.one (.v r.V)), .av (.one (.v (g.V A c)))] (c_rwhy_hp0 s r g A c) (upsB (c_rwhy_hp0 s r g A c) (c_rwhy_up12 s r g A c)) (.av (.one (.u 46 1))) (w, []) :=
  pcalls_of_check rfl Try.func19 1000000 [.av (.one (.v s.V)), .av (.one (.v r.V)), .av (.one (.v (g.V A c)))] (c_rwhy_hp0 s r g A c) [(.cast 13 (.bool ((Go.bits .and .i64 g.flags 16) != 0)) (.bool true)),
    (.call 24 [g.V A c] (.int .u32 (EndS g))),
    (.cast 17 (.bool s.on) (.bool true)),
    (.cast 20 (.bool r.on) (.bool true)),
    (.call 23 [.int .u32 s.max, .int .u32 (EndS g)] (.int .i64 (G s.max (EndS g)))),
    (.cast 27 (.bool (decide ((G s.max (EndS g)) > 1))) (.bool false)),
    (.sched c_rwhy_T0 c_rwhy_B0 [(92, 0), (92, 1), (93, 5)] [] (.s 0 0 (.s 1 1 (.s 0 2 (.s 0 3 (.s 0 4 (.s 0 7 (.s 1 5 (.s 1 8 (.s 0 9 (.s 2 6 (.s 0 10 (.s 0 11 .e))))))))))))),
    (.cast 33 (.bool s.on) (.bool true)),
    (.call 23 [.int .u32 (EndS g), .int .u32 s.fin] (.int .i64 (G (EndS g) s.fin))),
    (.cast 42 (.bool (decide ((G (EndS g) s.fin) > (IntKind.i64.wrap (r.win + 1))))) (.bool true)),
    (.sched c_rwhy_T1 c_rwhy_B1 [(93, 0), (93, 1), (94, 0), (94, 1), (94, 2), (94, 3), (94, 4), (94, 5), (94, 6), (94, 7), (94, 8), (94, 9), (94, 10), (94, 11), (94, 12), (94, 13), (94, 14)] [] (.s 0 0 (.s 1 1 (.s 0 2 (.s 0 3 (.s 0 4 (.s 0 5 (.s 0 6 (.s 0 8 (.s 1 7 (.s 1 9 (.s 2 10 (.s 0 11 (.s 0 12 (.s 1 13 (.s 1 14 (.s 2 15 (.s 2 16 (.s 0 17 (.s 0 18 .e)))))))))))))))))))),
    (.cast 48 (.bool r.on) (.bool true)),
    (.call 38 [.int .u32 r.fin, .int .u32 g.ack] (.bool false)),
    (.call 42 [g.V A c] (.int .u32 (Last g))),
    (.call 38 [.int .u32 r.fin, .int .u32 (Last g)] (.bool false)),
    (.sched c_rwhy_T2 c_rwhy_B2 [(92, 5), (93, 0), (93, 1), (94, 3)] [] (.s 0 0 (.s 1 1 (.s 0 2 (.s 0 3 (.s 0 4 (.s 0 5 (.s 0 6 (.s 0 8 (.s 0 11 (.s 1 7 (.s 1 9 (.s 1 12 (.s 0 13 (.s 2 10 (.s 0 14 (.s 0 15 .e))))))))))))))))),
    (.cast 70 (.bool r.on) (.bool true)),
    (.call 23 [.int .u32 g.ack, .int .u32 r.fin] (.int .i64 (G g.ack r.fin))),
    (.cast 83 (.bool (decide ((G g.ack r.fin) > (IntKind.i64.wrap (s.win + 1))))) (.bool false))] (c_rwhy_up12 s r g A c) (by kernel_rfl) (by kernel_rfl)
    (by exact ⟨congrArg Value.bool k0, ⟨ent Try.func24 rfl rfl, fun w' hw => c_rend (s := g) (A := A) (c := c) wf_g (ok.keep hw) hd⟩, congrArg Value.bool k1, congrArg Value.bool k2, ⟨ent Try.func23 rfl rfl, fun w' hw => c_rgap wf_s.max (EndS_bd _)⟩, congrArg Value.bool k3, trivial, congrArg Value.bool k1, ⟨ent Try.func23 rfl rfl, fun w' hw => c_rgap (EndS_bd _) wf_s.fin⟩, congrArg Value.bool k4, trivial, congrArg Value.bool k2, ⟨ent Try.func38 rfl rfl, fun w' hw => ret_eq (congrArg Value.bool k5) ((fun w' hw => c_rbefore wf_r.fin wf_g.ack) w' hw)⟩, ⟨ent Try.func42 rfl rfl, fun w' hw => c_rlast (s := g) (A := A) (c := c) wf_g (ok.keep hw) hbl⟩, ⟨ent Try.func38 rfl rfl, fun w' hw => ret_eq (congrArg Value.bool k6) ((fun w' hw => c_rbefore wf_r.fin (Last_bd _ wf_g)) w' hw)⟩, trivial, congrArg Value.bool k2, ⟨ent Try.func23 rfl rfl, fun w' hw => c_rgap wf_g.ack wf_r.fin⟩, congrArg Value.bool k7, trivial⟩)
set_option maxRecDepth 100000 in
theorem c_rwhy_19 {w : World} (s : Sd) (r : Sd) (g : Sg)  {A : Option Addr} {c : Nat} (ok : g.Ok A c w) (hd : g.data.size ≤ 1000000) (hbl : g.blocks.length ≤ 1000000) (wf_s : s.Wf) (wf_r : r.Wf) (wf_g : g.Wf) (h0 : (s.on) = true) (h1 : (r.on) = true) (h2 : (decide ((G s.max (EndS g)) > 1)) = false) (h3 : (decide ((G (EndS g) s.fin) > (IntKind.i64.wrap (r.win + 1)))) = true) (h4 : ((Go.bits .and .i64 g.flags 16) != 0) = true) (h5 : (decide (0 < G r.fin g.ack)) = false) (h6 : (decide (0 < G r.fin (Last g))) = false) (h7 : (decide ((G g.ack r.fin) > (IntKind.i64.wrap (s.win + 1)))) = false) : Calls Try.prog 15 #[s.V, r.V, g.V A c] w fun e w' => e = .returned (.int .i64 2) ∧ Below w.heap.size w w' :=
  calls_of_check rfl Try.func15 1000000 [s.V, r.V, g.V A c] [(.callp 19 [.av (.one (.v s.V)), .av (.one (.v r.V)), .av (.one (.v (g.V A c)))] (c_rwhy_hp0 s r g A c) (c_rwhy_up12 s r g A c) (.av (.one (.u 46 1))))] (by kernel_rfl) (by kernel_rfl)
    (by exact ⟨⟨ent Try.func19 rfl rfl, c_rwhy_s19 s r g ok hd hbl wf_s wf_r wf_g h4 h0 h1 h2 h3 h5 h6 h7⟩, trivial⟩)
set_option maxRecDepth 100000 in
theorem c_rwhy_s20 {w : World} (s : Sd) (r : Sd) (g : Sg)  {A : Option Addr} {c : Nat} (ok : g.Ok A c w) (hd : g.data.size ≤ 1000000) (hbl : g.blocks.length ≤ 1000000) (wf_s : s.Wf) (wf_r : r.Wf) (wf_g : g.Wf) (k0 : ((Go.bits .and .i64 g.flags 16) != 0) = false) (k1 : (s.on) = true) (k2 : (r.on) = true) (k3 : (decide ((G s.max (EndS g)) > 1)) = false) (k4 : (decide ((G (EndS g) s.fin) > (IntKind.i64.wrap (r.win + 1)))) = true) : PCalls Try.prog 19 [.av (.one (.v s.V)), .av (.one (.v r.V)), .av (.one (.v (g.V A c)))] (c_rwhy_hp0 s r g A c) (upsB (c_rwhy_hp0 s r g A c) (c_rwhy_up12 s r g A c)) (.av (.one (.u 46 1))) (w, []) :=
  pcalls_of_check rfl Try.func19 1000000 [.av (.one (.v s.V)), .av (.one (.v r.V)), .av (.one (.v (g.V A c)))] (c_rwhy_hp0 s r g A c) [(.cast 13 (.bool ((Go.bits .and .i64 g.flags 16) != 0)) (.bool false)),
    (.call 24 [g.V A c] (.int .u32 (EndS g))),
    (.cast 17 (.bool s.on) (.bool true)),
    (.cast 20 (.bool r.on) (.bool true)),
    (.call 23 [.int .u32 s.max, .int .u32 (EndS g)] (.int .i64 (G s.max (EndS g)))),
    (.cast 27 (.bool (decide ((G s.max (EndS g)) > 1))) (.bool false)),
    (.sched c_rwhy_T0 c_rwhy_B0 [(92, 0), (92, 1), (93, 5)] [] (.s 0 0 (.s 1 1 (.s 0 2 (.s 0 3 (.s 0 4 (.s 0 7 (.s 1 5 (.s 1 8 (.s 0 9 (.s 2 6 (.s 0 10 (.s 0 11 .e))))))))))))),
    (.cast 33 (.bool s.on) (.bool true)),
    (.call 23 [.int .u32 (EndS g), .int .u32 s.fin] (.int .i64 (G (EndS g) s.fin))),
    (.cast 42 (.bool (decide ((G (EndS g) s.fin) > (IntKind.i64.wrap (r.win + 1))))) (.bool true)),
    (.sched c_rwhy_T1 c_rwhy_B1 [(93, 0)] [] (.s 0 0 (.s 1 1 (.s 0 2 (.s 0 3 (.s 0 4 (.s 0 5 (.s 0 6 (.s 0 7 (.s 0 8 (.s 0 9 (.s 0 10 (.s 0 11 (.s 0 12 (.s 0 13 (.s 0 14 (.s 0 15 (.s 0 16 (.s 0 17 (.s 0 18 .e)))))))))))))))))))),
    (.cast 48 (.bool r.on) (.bool true)),
    (.sched c_rwhy_T2 c_rwhy_B2 [(93, 0)] [] (.s 0 0 (.s 1 1 (.s 0 2 (.s 0 3 (.s 0 4 (.s 0 5 (.s 0 6 (.s 0 7 (.s 0 8 (.s 0 9 (.s 0 10 (.s 0 11 (.s 0 12 (.s 0 13 (.s 0 14 (.s 0 15 .e))))))))))))))))),
    (.cast 70 (.bool r.on) (.bool true))] (c_rwhy_up12 s r g A c) (by kernel_rfl) (by kernel_rfl)
    (by exact ⟨congrArg Value.bool k0, ⟨ent Try.func24 rfl rfl, fun w' hw => c_rend (s := g) (A := A) (c := c) wf_g (ok.keep hw) hd⟩, congrArg Value.bool k1, congrArg Value.bool k2, ⟨ent Try.func23 rfl rfl, fun w' hw => c_rgap wf_s.max (EndS_bd _)⟩, congrArg Value.bool k3, trivial, congrArg Value.bool k1, ⟨ent Try.func23 rfl rfl, fun w' hw => c_rgap (EndS_bd _) wf_s.fin⟩, congrArg Value.bool k4, trivial, congrArg Value.bool k2, trivial, congrArg Value.bool k2, trivial⟩)
set_option maxRecDepth 100000 in
theorem c_rwhy_20 {w : World} (s : Sd) (r : Sd) (g : Sg)  {A : Option Addr} {c : Nat} (ok : g.Ok A c w) (hd : g.data.size ≤ 1000000) (hbl : g.blocks.length ≤ 1000000) (wf_s : s.Wf) (wf_r : r.Wf) (wf_g : g.Wf) (h0 : (s.on) = true) (h1 : (r.on) = true) (h2 : (decide ((G s.max (EndS g)) > 1)) = false) (h3 : (decide ((G (EndS g) s.fin) > (IntKind.i64.wrap (r.win + 1)))) = true) (h4 : ((Go.bits .and .i64 g.flags 16) != 0) = false) : Calls Try.prog 15 #[s.V, r.V, g.V A c] w fun e w' => e = .returned (.int .i64 2) ∧ Below w.heap.size w w' :=
  calls_of_check rfl Try.func15 1000000 [s.V, r.V, g.V A c] [(.callp 19 [.av (.one (.v s.V)), .av (.one (.v r.V)), .av (.one (.v (g.V A c)))] (c_rwhy_hp0 s r g A c) (c_rwhy_up12 s r g A c) (.av (.one (.u 46 1))))] (by kernel_rfl) (by kernel_rfl)
    (by exact ⟨⟨ent Try.func19 rfl rfl, c_rwhy_s20 s r g ok hd hbl wf_s wf_r wf_g h4 h0 h1 h2 h3⟩, trivial⟩)
set_option maxRecDepth 100000 in
theorem c_rwhy_s21 {w : World} (s : Sd) (r : Sd) (g : Sg)  {A : Option Addr} {c : Nat} (ok : g.Ok A c w) (hd : g.data.size ≤ 1000000) (hbl : g.blocks.length ≤ 1000000) (wf_s : s.Wf) (wf_r : r.Wf) (wf_g : g.Wf) (k0 : ((Go.bits .and .i64 g.flags 16) != 0) = true) (k1 : (s.on) = true) (k2 : (r.on) = true) (k3 : (decide ((G s.max (EndS g)) > 1)) = false) (k4 : (decide ((G (EndS g) s.fin) > (IntKind.i64.wrap (r.win + 1)))) = false) (k5 : (decide (0 < G r.fin g.ack)) = true) (k6 : (decide ((G g.ack r.fin) > (IntKind.i64.wrap (s.win + 1)))) = true) : PCalls Try.prog 19 [.av (.one (.v s.V)), .av (.one (.v r.V)), .av (.one (.v (g.V A c)))] (c_rwhy_hp0 s r g A c) (upsB (c_rwhy_hp0 s r g A c) (c_rwhy_up13 s r g A c)) (.av (.one (.u 87 2))) (w, []) :=
  pcalls_of_check rfl Try.func19 1000000 [.av (.one (.v s.V)), .av (.one (.v r.V)), .av (.one (.v (g.V A c)))] (c_rwhy_hp0 s r g A c) [(.cast 13 (.bool ((Go.bits .and .i64 g.flags 16) != 0)) (.bool true)),
    (.call 24 [g.V A c] (.int .u32 (EndS g))),
    (.cast 17 (.bool s.on) (.bool true)),
    (.cast 20 (.bool r.on) (.bool true)),
    (.call 23 [.int .u32 s.max, .int .u32 (EndS g)] (.int .i64 (G s.max (EndS g)))),
    (.cast 27 (.bool (decide ((G s.max (EndS g)) > 1))) (.bool false)),
    (.sched c_rwhy_T0 c_rwhy_B0 [(92, 0), (92, 1), (93, 5)] [] (.s 0 0 (.s 1 1 (.s 0 2 (.s 0 3 (.s 0 4 (.s 0 7 (.s 1 5 (.s 1 8 (.s 0 9 (.s 2 6 (.s 0 10 (.s 0 11 .e))))))))))))),
    (.cast 33 (.bool s.on) (.bool true)),
    (.call 23 [.int .u32 (EndS g), .int .u32 s.fin] (.int .i64 (G (EndS g) s.fin))),
    (.cast 42 (.bool (decide ((G (EndS g) s.fin) > (IntKind.i64.wrap (r.win + 1))))) (.bool false)),
    (.sched c_rwhy_T1 c_rwhy_B1 [(93, 0), (93, 1), (94, 3)] [] (.s 0 0 (.s 1 1 (.s 0 2 (.s 0 3 (.s 0 4 (.s 0 5 (.s 0 6 (.s 0 8 (.s 1 7 (.s 1 9 (.s 2 10 (.s 0 11 (.s 0 12 (.s 0 13 (.s 0 14 (.s 0 15 (.s 0 16 (.s 0 17 (.s 0 18 .e)))))))))))))))))))),
    (.cast 48 (.bool r.on) (.bool true)),
    (.call 38 [.int .u32 r.fin, .int .u32 g.ack] (.bool true)),
    (.sched c_rwhy_T2 c_rwhy_B2 [(92, 5), (93, 0), (93, 1), (94, 3)] [] (.s 0 0 (.s 1 1 (.s 0 2 (.s 0 3 (.s 0 4 (.s 0 5 (.s 0 6 (.s 0 8 (.s 0 11 (.s 1 7 (.s 1 9 (.s 1 12 (.s 0 13 (.s 2 10 (.s 0 14 (.s 0 15 .e))))))))))))))))),
    (.cast 70 (.bool r.on) (.bool true)),
    (.call 23 [.int .u32 g.ack, .int .u32 r.fin] (.int .i64 (G g.ack r.fin))),
    (.cast 83 (.bool (decide ((G g.ack r.fin) > (IntKind.i64.wrap (s.win + 1))))) (.bool true))] (c_rwhy_up13 s r g A c) (by kernel_rfl) (by kernel_rfl)
    (by exact ⟨congrArg Value.bool k0, ⟨ent Try.func24 rfl rfl, fun w' hw => c_rend (s := g) (A := A) (c := c) wf_g (ok.keep hw) hd⟩, congrArg Value.bool k1, congrArg Value.bool k2, ⟨ent Try.func23 rfl rfl, fun w' hw => c_rgap wf_s.max (EndS_bd _)⟩, congrArg Value.bool k3, trivial, congrArg Value.bool k1, ⟨ent Try.func23 rfl rfl, fun w' hw => c_rgap (EndS_bd _) wf_s.fin⟩, congrArg Value.bool k4, trivial, congrArg Value.bool k2, ⟨ent Try.func38 rfl rfl, fun w' hw => ret_eq (congrArg Value.bool k5) ((fun w' hw => c_rbefore wf_r.fin wf_g.ack) w' hw)⟩, trivial, congrArg Value.bool k2, ⟨ent Try.func23 rfl rfl, fun w' hw => c_rgap wf_g.ack wf_r.fin⟩, congrArg Value.bool k6, trivial⟩)
set_option maxRecDepth 100000 in
theorem c_rwhy_21 {w : World} (s : Sd) (r : Sd) (g : Sg)  {A : Option Addr} {c : Nat} (ok : g.Ok A c w) (hd : g.data.size ≤ 1000000) (hbl : g.blocks.length ≤ 1000000) (wf_s : s.Wf) (wf_r : r.Wf) (wf_g : g.Wf) (h0 : (s.on) = true) (h1 : (r.on) = true) (h2 : (decide ((G s.max (EndS g)) > 1)) = false) (h3 : (decide ((G (EndS g) s.fin) > (IntKind.i64.wrap (r.win + 1)))) = false) (h4 : ((Go.bits .and .i64 g.flags 16) != 0) = true) (h5 : (decide (0 < G r.fin g.ack)) = true) (h6 : (decide ((G g.ack r.fin) > (IntKind.i64.wrap (s.win + 1)))) = true) : Calls Try.prog 15 #[s.V, r.V, g.V A c] w fun e w' => e = .returned (.int .i64 3) ∧ Below w.heap.size w w' :=
  calls_of_check rfl Try.func15 1000000 [s.V, r.V, g.V A c] [(.callp 19 [.av (.one (.v s.V)), .av (.one (.v r.V)), .av (.one (.v (g.V A c)))] (c_rwhy_hp0 s r g A c) (c_rwhy_up13 s r g A c) (.av (.one (.u 87 2))))] (by kernel_rfl) (by kernel_rfl)
    (by exact ⟨⟨ent Try.func19 rfl rfl, c_rwhy_s21 s r g ok hd hbl wf_s wf_r wf_g h4 h0 h1 h2 h3 h5 h6⟩, trivial⟩)
set_option maxRecDepth 100000 in
theorem c_rwhy_s22 {w : World} (s : Sd) (r : Sd) (g : Sg)  {A : Option Addr} {c : Nat} (ok : g.Ok A c w) (hd : g.data.size ≤ 1000000) (hbl : g.blocks.length ≤ 1000000) (wf_s : s.Wf) (wf_r : r.Wf) (wf_g : g.Wf) (k0 : ((Go.bits .and .i64 g.flags 16) != 0) = true) (k1 : (s.on) = true) (k2 : (r.on) = true) (k3 : (decide ((G s.max (EndS g)) > 1)) = false) (k4 : (decide ((G (EndS g) s.fin) > (IntKind.i64.wrap (r.win + 1)))) = false) (k5 : (decide (0 < G r.fin g.ack)) = true) (k6 : (decide ((G g.ack r.fin) > (IntKind.i64.wrap (s.win + 1)))) = false) : PCalls Try.prog 19 [.av (.one (.v s.V)), .av (.one (.v r.V)), .av (.one (.v (g.V A c)))] (c_rwhy_hp0 s r g A c) (upsB (c_rwhy_hp0 s r g A c) (c_rwhy_up14 s r g A c)) (.av (.one (.u 68 1))) (w, []) :=
  pcalls_of_check rfl Try.func19 1000000 [.av (.one (.v s.V)), .av (.one (.v r.V)), .av (.one (.v (g.V A c)))] (c_rwhy_hp0 s r g A c) [(.cast 13 (.bool ((Go.bits .and .i64 g.flags 16) != 0)) (.bool true)),
    (.call 24 [g.V A c] (.int .u32 (EndS g))),
    (.cast 17 (.bool s.on) (.bool true)),
    (.cast 20 (.bool r.on) (.bool true)),
    (.call 23 [.int .u32 s.max, .int .u32 (EndS g)] (.int .i64 (G s.max (EndS g)))),
    (.cast 27 (.bool (decide ((G s.max (EndS g)) > 1))) (.bool false)),
    (.sched c_rwhy_T0 c_rwhy_B0 [(92, 0), (92, 1), (93, 5)] [] (.s 0 0 (.s 1 1 (.s 0 2 (.s 0 3 (.s 0 4 (.s 0 7 (.s 1 5 (.s 1 8 (.s 0 9 (.s 2 6 (.s 0 10 (.s 0 11 .e))))))))))))),
    (.cast 33 (.bool s.on) (.bool true)),
    (.call 23 [.int .u32 (EndS g), .int .u32 s.fin] (.int .i64 (G (EndS g) s.fin))),
    (.cast 42 (.bool (decide ((G (EndS g) s.fin) > (IntKind.i64.wrap (r.win + 1))))) (.bool false)),
    (.sched c_rwhy_T1 c_rwhy_B1 [(93, 0), (93, 1), (94, 3)] [] (.s 0 0 (.s 1 1 (.s 0 2 (.s 0 3 (.s 0 4 (.s 0 5 (.s 0 6 (.s 0 8 (.s 1 7 (.s 1 9 (.s 2 10 (.s 0 11 (.s 0 12 (.s 0 13 (.s 0 14 (.s 0 15 (.s 0 16 (.s 0 17 (.s 0 18 .e)))))))))))))))))))),
    (.cast 48 (.bool r.on) (.bool true)),
    (.call 38 [.int .u32 r.fin, .int .u32 g.ack] (.bool true)),
    (.sched c_rwhy_T2 c_rwhy_B2 [(92, 5), (93, 0), (93, 1), (94, 3)] [] (.s 0 0 (.s 1 1 (.s 0 2 (.s 0 3 (.s 0 4 (.s 0 5 (.s 0 6 (.s 0 8 (.s 0 11 (.s 1 7 (.s 1 9 (.s 1 12 (.s 0 13 (.s 2 10 (.s 0 14 (.s 0 15 .e))))))))))))))))),
    (.cast 70 (.bool r.on) (.bool true)),
    (.call 23 [.int .u32 g.ack, .int .u32 r.fin] (.int .i64 (G g.ack r.fin))),
    (.cast 83 (.bool (decide ((G g.ack r.fin) > (IntKind.i64.wrap (s.win + 1))))) (.bool false))] (c_rwhy_up14 s r g A c) (by kernel_rfl) (by kernel_rfl)
    (by exact ⟨congrArg Value.bool k0, ⟨ent Try.func24 rfl rfl, fun w' hw => c_rend (s := g) (A := A) (c := c) wf_g (ok.keep hw) hd⟩, congrArg Value.bool k1, congrArg Value.bool k2, ⟨ent Try.func23 rfl rfl, fun w' hw => c_rgap wf_s.max (EndS_bd _)⟩, congrArg Value.bool k3, trivial, congrArg Value.bool k1, ⟨ent Try.func23 rfl rfl, fun w' hw => c_rgap (EndS_bd _) wf_s.fin⟩, congrArg Value.bool k4, trivial, congrArg Value.bool k2, ⟨ent Try.func38 rfl rfl, fun w' hw => ret_eq (congrArg Value.bool k5) ((fun w' hw => c_rbefore wf_r.fin wf_g.ack) w' hw)⟩, trivial, congrArg Value.bool k2, ⟨ent Try.func23 rfl rfl, fun w' hw => c_rgap wf_g.ack wf_r.fin⟩, congrArg Value.bool k6, trivial⟩)
set_option maxRecDepth 100000 in
theorem c_rwhy_22 {w : World} (s : Sd) (r : Sd) (g : Sg)  {A : Option Addr} {c : Nat} (ok : g.Ok A c w) (hd : g.data.size ≤ 1000000) (hbl : g.blocks.length ≤ 1000000) (wf_s : s.Wf) (wf_r : r.Wf) (wf_g : g.Wf) (h0 : (s.on) = true) (h1 : (r.on) = true) (h2 : (decide ((G s.max (EndS g)) > 1)) = false) (h3 : (decide ((G (EndS g) s.fin) > (IntKind.i64.wrap (r.win + 1)))) = false) (h4 : ((Go.bits .and .i64 g.flags 16) != 0) = true) (h5 : (decide (0 < G r.fin g.ack)) = true) (h6 : (decide ((G g.ack r.fin) > (IntKind.i64.wrap (s.win + 1)))) = false) : Calls Try.prog 15 #[s.V, r.V, g.V A c] w fun e w' => e = .returned (.int .i64 3) ∧ Below w.heap.size w w' :=
  calls_of_check rfl Try.func15 1000000 [s.V, r.V, g.V A c] [(.callp 19 [.av (.one (.v s.V)), .av (.one (.v r.V)), .av (.one (.v (g.V A c)))] (c_rwhy_hp0 s r g A c) (c_rwhy_up14 s r g A c) (.av (.one (.u 68 1))))] (by kernel_rfl) (by kernel_rfl)
    (by exact ⟨⟨ent Try.func19 rfl rfl, c_rwhy_s22 s r g ok hd hbl wf_s wf_r wf_g h4 h0 h1 h2 h3 h5 h6⟩, trivial⟩)
set_option maxRecDepth 100000 in
theorem c_rwhy_s23 {w : World} (s : Sd) (r : Sd) (g : Sg)  {A : Option Addr} {c : Nat} (ok : g.Ok A c w) (hd : g.data.size ≤ 1000000) (hbl : g.blocks.length ≤ 1000000) (wf_s : s.Wf) (wf_r : r.Wf) (wf_g : g.Wf) (k0 : ((Go.bits .and .i64 g.flags 16) != 0) = true) (k1 : (s.on) = true) (k2 : (r.on) = true) (k3 : (decide ((G s.max (EndS g)) > 1)) = false) (k4 : (decide ((G (EndS g) s.fin) > (IntKind.i64.wrap (r.win + 1)))) = false) (k5 : (decide (0 < G r.fin g.ack)) = false) (k6 : (decide (0 < G r.fin (Last g))) = true) (k7 : (decide ((G g.ack r.fin) > (IntKind.i64.wrap (s.win + 1)))) = true) : PCalls Try.prog 19 [.av (.one (.v s.V)), .av (.one (.v r.V)), .av (.one (.v (g.V A c)))] (c_rwhy_hp0 s r g A c) (upsB (c_rwhy_hp0 s r g A c) (c_rwhy_up13 s r g A c)) (.av (.one (.u 87 2))) (w, []) :=
  pcalls_of_check rfl Try.func19 1000000 [.av (.one (.v s.V)), .av (.one (.v r.V)), .av (.one (.v (g.V A c)))] (c_rwhy_hp0 s r g A c) [(.cast 13 (.bool ((Go.bits .and .i64 g.flags 16) != 0)) (.bool true)),
    (.call 24 [g.V A c] (.int .u32 (EndS g))),
    (.cast 17 (.bool s.on) (.bool true)),
    (.cast 20 (.bool r.on) (.bool true)),
    (.call 23 [.int .u32 s.max, .int .u32 (EndS g)] (.int .i64 (G s.max (EndS g)))),
    (.cast 27 (.bool (decide ((G s.max (EndS g)) > 1))) (.bool false)),
    (.sched c_rwhy_T0 c_rwhy_B0 [(92, 0), (92, 1), (93, 5)] [] (.s 0 0 (.s 1 1 (.s 0 2 (.s 0 3 (.s 0 4 (.s 0 7 (.s 1 5 (.s 1 8 (.s 0 9 (.s 2 6 (.s 0 10 (.s 0 11 .e))))))))))))),
    (.cast 33 (.bool s.on) (.bool true)),
    (.call 23 [.int .u32 (EndS g), .int .u32 s.fin] (.int .i64 (G (EndS g) s.fin))),
    (.cast 42 (.bool (decide ((G (EndS g) s.fin) > (IntKind.i64.wrap (r.win + 1))))) (.bool false)),
    (.sched c_rwhy_T1 c_rwhy_B1 [(93, 0), (93, 1), (94, 0), (94, 1), (94, 2), (94, 3), (94, 4), (94, 5), (94, 6), (94, 7), (94, 8), (94, 9), (94, 10), (94, 11), (94, 12), (94, 13), (94, 14)] [] (.s 0 0 (.s 1 1 (.s 0 2 (.s 0 3 (.s 0 4 (.s 0 5 (.s 0 6 (.s 0 8 (.s 1 7 (.s 1 9 (.s 2 10 (.s 0 11 (.s 0 12 (.s 1 13 (.s 1 14 (.s 2 15 (.s 2 16 (.s 0 17 (.s 0 18 .e)))))))))))))))))))),
    (.cast 48 (.bool r.on) (.bool true)),
    (.call 38 [.int .u32 r.fin, .int .u32 g.ack] (.bool false)),
    (.call 42 [g.V A c] (.int .u32 (Last g))),
    (.call 38 [.int .u32 r.fin, .int .u32 (Last g)] (.bool true)),
    (.sched c_rwhy_T2 c_rwhy_B2 [(92, 5), (93, 0), (93, 1), (94, 3)] [] (.s 0 0 (.s 1 1 (.s 0 2 (.s 0 3 (.s 0 4 (.s 0 5 (.s 0 6 (.s 0 8 (.s 0 11 (.s 1 7 (.s 1 9 (.s 1 12 (.s 0 13 (.s 2 10 (.s 0 14 (.s 0 15 .e))))))))))))))))),
    (.cast 70 (.bool r.on) (.bool true)),
    (.call 23 [.int .u32 g.ack, .int .u32 r.fin] (.int .i64 (G g.ack r.fin))),
    (.cast 83 (.bool (decide ((G g.ack r.fin) > (IntKind.i64.wrap (s.win + 1))))) (.bool true))] (c_rwhy_up13 s r g A c) (by kernel_rfl) (by kernel_rfl)
    (by exact ⟨congrArg Value.bool k0, ⟨ent Try.func24 rfl rfl, fun w' hw => c_rend (s := g) (A := A) (c := c) wf_g (ok.keep hw) hd⟩, congrArg Value.bool k1, congrArg Value.bool k2, ⟨ent Try.func23 rfl rfl, fun w' hw => c_rgap wf_s.max (EndS_bd _)⟩, congrArg Value.bool k3, trivial, congrArg Value.bool k1, ⟨ent Try.func23 rfl rfl, fun w' hw => c_rgap (EndS_bd _) wf_s.fin⟩, congrArg Value.bool k4, trivial, congrArg Value.bool k2, ⟨ent Try.func38 rfl rfl, fun w' hw => ret_eq (congrArg Value.bool k5) ((fun w' hw => c_rbefore wf_r.fin wf_g.ack) w' hw)⟩, ⟨ent Try.func42 rfl rfl, fun w' hw => c_rlast (s := g) (A := A) (c := c) wf_g (ok.keep hw) hbl⟩, ⟨ent Try.func38 rfl rfl, fun w' hw => ret_eq (congrArg Value.bool k6) ((fun w' hw => c_rbefore wf_r.fin (Last_bd _ wf_g)) w' hw)⟩, trivial, congrArg Value.bool k2, ⟨ent Try.func23 rfl rfl, fun w' hw => c_rgap wf_g.ack wf_r.fin⟩, congrArg Value.bool k7, trivial⟩)
set_option maxRecDepth 100000 in
theorem c_rwhy_23 {w : World} (s : Sd) (r : Sd) (g : Sg)  {A : Option Addr} {c : Nat} (ok : g.Ok A c w) (hd : g.data.size ≤ 1000000) (hbl : g.blocks.length ≤ 1000000) (wf_s : s.Wf) (wf_r : r.Wf) (wf_g : g.Wf) (h0 : (s.on) = true) (h1 : (r.on) = true) (h2 : (decide ((G s.max (EndS g)) > 1)) = false) (h3 : (decide ((G (EndS g) s.fin) > (IntKind.i64.wrap (r.win + 1)))) = false) (h4 : ((Go.bits .and .i64 g.flags 16) != 0) = true) (h5 : (decide (0 < G r.fin g.ack)) = false) (h6 : (decide (0 < G r.fin (Last g))) = true) (h7 : (decide ((G g.ack r.fin) > (IntKind.i64.wrap (s.win + 1)))) = true) : Calls Try.prog 15 #[s.V, r.V, g.V A c] w fun e w' => e = .returned (.int .i64 3) ∧ Below w.heap.size w w' :=
  calls_of_check rfl Try.func15 1000000 [s.V, r.V, g.V A c] [(.callp 19 [.av (.one (.v s.V)), .av (.one (.v r.V)), .av (.one (.v (g.V A c)))] (c_rwhy_hp0 s r g A c) (c_rwhy_up13 s r g A c) (.av (.one (.u 87 2))))] (by kernel_rfl) (by kernel_rfl)
    (by exact ⟨⟨ent Try.func19 rfl rfl, c_rwhy_s23 s r g ok hd hbl wf_s wf_r wf_g h4 h0 h1 h2 h3 h5 h6 h7⟩, trivial⟩)
set_option maxRecDepth 100000 in
theorem c_rwhy_s24 {w : World} (s : Sd) (r : Sd) (g : Sg)  {A : Option Addr} {c : Nat} (ok : g.Ok A c w) (hd : g.data.size ≤ 1000000) (hbl : g.blocks.length ≤ 1000000) (wf_s : s.Wf) (wf_r : r.Wf) (wf_g : g.Wf) (k0 : ((Go.bits .and .i64 g.flags 16) != 0) = true) (k1 : (s.on) = true) (k2 : (r.on) = true) (k3 : (decide ((G s.max (EndS g)) > 1)) = false) (k4 : (decide ((G (EndS g) s.fin) > (IntKind.i64.wrap (r.win + 1)))) = false) (k5 : (decide (0 < G r.fin g.ack)) = false) (k6 : (decide (0 < G r.fin (Last g))) = true) (k7 : (decide ((G g.ack r.fin) > (IntKind.i64.wrap (s.win + 1)))) = false) : PCalls Try.prog 19 [.av (.one (.v s.V)), .av (.one (.v r.V)), .av (.one (.v (g.V A c)))] (c_rwhy_hp0 s r g A c) (upsB (c_rwhy_hp0 s r g A c) (c_rwhy_up14 s r g A c)) (.av (.one (.u 68 1))) (w, []) :=
  pcalls_of_check rfl Try.func19 1000000 [.av (.one (.v s.V)), .av (.one (.v r.V)), .av (.one (.v (g.V A c)))] (c_rwhy_hp0 s r g A c) [(.cast 13 (.bool ((Go.bits .and .i64 g.flags 16) != 0)) (.bool true)),
    (.call 24 [g.V A c] (.int .u32 (EndS g))),
    (.cast 17 (.bool s.on) (.bool true)),
    (.cast 20 (.bool r.on) (.bool true)),
    (.call 23 [.int .u32 s.max, .int .u32 (EndS g)] (.int .i64 (G s.max (EndS g)))),
    (.cast 27 (.bool (decide ((G s.max (EndS g)) > 1))) (.bool false)),
    (.sched c_rwhy_T0 c_rwhy_B0 [(92, 0), (92, 1), (93, 5)] [] (.s 0 0 (.s 1 1 (.s 0 2 (.s 0 3 (.s 0 4 (.s 0 7 (.s 1 5 (.s 1 8 (.s 0 9 (.s 2 6 (.s 0 10 (.s 0 11 .e))))))))))))),
    (.cast 33 (.bool s.on) (.bool true)),
    (.call 23 [.int .u32 (EndS g), .int .u32 s.fin] (.int .i64 (G (EndS g) s.fin))),
    (.cast 42 (.bool (decide ((G (EndS g) s.fin) > (IntKind.i64.wrap (r.win + 1))))) (.bool false)),
    (.sched c_rwhy_T1 c_rwhy_B1 [(93, 0), (93, 1), (94, 0), (94, 1), (94, 2), (94, 3), (94, 4), (94, 5), (94, 6), (94, 7), (94, 8), (94, 9), (94, 10), (94, 11), (94, 12), (94, 13), (94, 14)] [] (.s 0 0 (.s 1 1 (.s 0 2 (.s 0 3 (.s 0 4 (.s 0 5 (.s 0 6 (.s 0 8 (.s 1 7 (.s 1 9 (.s 2 10 (.s 0 11 (.s 0 12 (.s 1 13 (.s 1 14 (.s 2 15 (.s 2 16 (.s 0 17 (.s 0 18 .e)))))))))))))))))))),
    (.cast 48 (.bool r.on) (.bool true)),
    (.call 38 [.int .u32 r.fin, .int .u32 g.ack] (.bool false)),
    (.call 42 [g.V A c] (.int .u32 (Last g))),
    (.call 38 [.int .u32 r.fin, .int .u32 (Last g)] (.bool true)),
    (.sched c_rwhy_T2 c_rwhy_B2 [(92, 5), (93, 0), (93, 1), (94, 3)] [] (.s 0 0 (.s 1 1 (.s 0 2 (.s 0 3 (.s 0 4 (.s 0 5 (.s 0 6 (.s 0 8 (.s 0 11 (.s 1 7 (.s 1 9 (.s 1 12 (.s 0 13 (.s 2 10 (.s 0 14 (.s 0 15 .e))))))))))))))))),
    (.cast 70 (.bool r.on) (.bool true)),
    (.call 23 [.int .u32 g.ack, .int .u32 r.fin] (.int .i64 (G g.ack r.fin))),
    (.cast 83 (.bool (decide ((G g.ack r.fin) > (IntKind.i64.wrap (s.win + 1))))) (.bool false))] (c_rwhy_up14 s r g A c) (by kernel_rfl) (by kernel_rfl)
    (by exact ⟨congrArg Value.bool k0, ⟨ent Try.func24 rfl rfl, fun w' hw => c_rend (s := g) (A := A) (c := c) wf_g (ok.keep hw) hd⟩, congrArg Value.bool k1, congrArg Value.bool k2, ⟨ent Try.func23 rfl rfl, fun w' hw => c_rgap wf_s.max (EndS_bd _)⟩, congrArg Value.bool k3, trivial, congrArg Value.bool k1, ⟨ent Try.func23 rfl rfl, fun w' hw => c_rgap (EndS_bd _) wf_s.fin⟩, congrArg Value.bool k4, trivial, congrArg Value.bool k2, ⟨ent Try.func38 rfl rfl, fun w' hw => ret_eq (congrArg Value.bool k5) ((fun w' hw => c_rbefore wf_r.fin wf_g.ack) w' hw)⟩, ⟨ent Try.func42 rfl rfl, fun w' hw => c_rlast (s := g) (A := A) (c := c) wf_g (ok.keep hw) hbl⟩, ⟨ent Try.func38 rfl rfl, fun w' hw => ret_eq (congrArg Value.bool k6) ((fun w' hw => c_rbefore wf_r.fin (Last_bd _ wf_g)) w' hw)⟩, trivial, congrArg Value.bool k2, ⟨ent Try.func23 rfl rfl, fun w' hw => c_rgap wf_g.ack wf_r.fin⟩, congrArg Value.bool k7, trivial⟩)
set_option maxRecDepth 100000 in
theorem c_rwhy_24 {w : World} (s : Sd) (r : Sd) (g : Sg)  {A : Option Addr} {c : Nat} (ok : g.Ok A c w) (hd : g.data.size ≤ 1000000) (hbl : g.blocks.length ≤ 1000000) (wf_s : s.Wf) (wf_r : r.Wf) (wf_g : g.Wf) (h0 : (s.on) = true) (h1 : (r.on) = true) (h2 : (decide ((G s.max (EndS g)) > 1)) = false) (h3 : (decide ((G (EndS g) s.fin) > (IntKind.i64.wrap (r.win + 1)))) = false) (h4 : ((Go.bits .and .i64 g.flags 16) != 0) = true) (h5 : (decide (0 < G r.fin g.ack)) = false) (h6 : (decide (0 < G r.fin (Last g))) = true) (h7 : (decide ((G g.ack r.fin) > (IntKind.i64.wrap (s.win + 1)))) = false) : Calls Try.prog 15 #[s.V, r.V, g.V A c] w fun e w' => e = .returned (.int .i64 3) ∧ Below w.heap.size w w' :=
  calls_of_check rfl Try.func15 1000000 [s.V, r.V, g.V A c] [(.callp 19 [.av (.one (.v s.V)), .av (.one (.v r.V)), .av (.one (.v (g.V A c)))] (c_rwhy_hp0 s r g A c) (c_rwhy_up14 s r g A c) (.av (.one (.u 68 1))))] (by kernel_rfl) (by kernel_rfl)
    (by exact ⟨⟨ent Try.func19 rfl rfl, c_rwhy_s24 s r g ok hd hbl wf_s wf_r wf_g h4 h0 h1 h2 h3 h5 h6 h7⟩, trivial⟩)
set_option maxRecDepth 100000 in
theorem c_rwhy_s25 {w : World} (s : Sd) (r : Sd) (g : Sg)  {A : Option Addr} {c : Nat} (ok : g.Ok A c w) (hd : g.data.size ≤ 1000000) (hbl : g.blocks.length ≤ 1000000) (wf_s : s.Wf) (wf_r : r.Wf) (wf_g : g.Wf) (k0 : ((Go.bits .and .i64 g.flags 16) != 0) = true) (k1 : (s.on) = true) (k2 : (r.on) = true) (k3 : (decide ((G s.max (EndS g)) > 1)) = false) (k4 : (decide ((G (EndS g) s.fin) > (IntKind.i64.wrap (r.win + 1)))) = false) (k5 : (decide (0 < G r.fin g.ack)) = false) (k6 : (decide (0 < G r.fin (Last g))) = false) (k7 : (decide ((G g.ack r.fin) > (IntKind.i64.wrap (s.win + 1)))) = true) : PCalls Try.prog 19 [.av (.one (.v s.V)), .av (.one (.v r.V)), .av (.one (.v (g.V A c)))] (c_rwhy_hp0 s r g A c) (upsB (c_rwhy_hp0 s r g A c) (c_rwhy_up15 s r g A c)) (.av (.one (.u 87 1))) (w, []) :=
  pcalls_of_check rfl Try.func19 1000000 [.av (.one (.v s.V)), .av (.one (.v r.V)), .av (.one (.v (g.V A c)))] (c_rwhy_hp0 s r g A c) [(.cast 13 (.bool ((Go.bits .and .i64 g.flags 16) != 0)) (.bool true)),
    (.call 24 [g.V A c] (.int .u32 (EndS g))),
    (.cast 17 (.bool s.on) (.bool true)),
    (.cast 20 (.bool r.on) (.bool true)),
    (.call 23 [.int .u32 s.max, .int .u32 (EndS g)] (.int .i64 (G s.max (EndS g)))),
    (.cast 27 (.bool (decide ((G s.max (EndS g)) > 1))) (.bool false)),
    (.sched c_rwhy_T0 c_rwhy_B0 [(92, 0), (92, 1), (93, 5)] [] (.s 0 0 (.s 1 1 (.s 0 2 (.s 0 3 (.s 0 4 (.s 0 7 (.s 1 5 (.s 1 8 (.s 0 9 (.s 2 6 (.s 0 10 (.s 0 11 .e))))))))))))),
    (.cast 33 (.bool s.on) (.bool true)),
    (.call 23 [.int .u32 (EndS g), .int .u32 s.fin] (.int .i64 (G (EndS g) s.fin))),
    (.cast 42 (.bool (decide ((G (EndS g) s.fin) > (IntKind.i64.wrap (r.win + 1))))) (.bool false)),
    (.sched c_rwhy_T1 c_rwhy_B1 [(93, 0), (93, 1), (94, 0), (94, 1), (94, 2), (94, 3), (94, 4), (94, 5), (94, 6), (94, 7), (94, 8), (94, 9), (94, 10), (94, 11), (94, 12), (94, 13), (94, 14)] [] (.s 0 0 (.s 1 1 (.s 0 2 (.s 0 3 (.s 0 4 (.s 0 5 (.s 0 6 (.s 0 8 (.s 1 7 (.s 1 9 (.s 2 10 (.s 0 11 (.s 0 12 (.s 1 13 (.s 1 14 (.s 2 15 (.s 2 16 (.s 0 17 (.s 0 18 .e)))))))))))))))))))),
    (.cast 48 (.bool r.on) (.bool true)),
    (.call 38 [.int .u32 r.fin, .int .u32 g.ack] (.bool false)),
    (.call 42 [g.V A c] (.int .u32 (Last g))),
    (.call 38 [.int .u32 r.fin, .int .u32 (Last g)] (.bool false)),
    (.sched c_rwhy_T2 c_rwhy_B2 [(92, 5), (93, 0), (93, 1), (94, 3)] [] (.s 0 0 (.s 1 1 (.s 0 2 (.s 0 3 (.s 0 4 (.s 0 5 (.s 0 6 (.s 0 8 (.s 0 11 (.s 1 7 (.s 1 9 (.s 1 12 (.s 0 13 (.s 2 10 (.s 0 14 (.s 0 15 .e))))))))))))))))),
    (.cast 70 (.bool r.on) (.bool true)),
    (.call 23 [.int .u32 g.ack, .int .u32 r.fin] (.int .i64 (G g.ack r.fin))),
    (.cast 83 (.bool (decide ((G g.ack r.fin) > (IntKind.i64.wrap (s.win + 1))))) (.bool true))] (c_rwhy_up15 s r g A c) (by kernel_rfl) (by kernel_rfl)
    (by exact ⟨congrArg Value.bool k0, ⟨ent Try.func24 rfl rfl, fun w' hw => c_rend (s := g) (A := A) (c := c) wf_g (ok.keep hw) hd⟩, congrArg Value.bool k1, congrArg Value.bool k2, ⟨ent Try.func23 rfl rfl, fun w' hw => c_rgap wf_s.max (EndS_bd _)⟩, congrArg Value.bool k3, trivial, congrArg Value.bool k1, ⟨ent Try.func23 rfl rfl, fun w' hw => c_rgap (EndS_bd _) wf_s.fin⟩, congrArg Value.bool k4, trivial, congrArg Value.bool k2, ⟨ent Try.func38 rfl rfl, fun w' hw => ret_eq (congrArg Value.bool k5) ((fun w' hw => c_rbefore wf_r.fin wf_g.ack) w' hw)⟩, ⟨ent Try.func42 rfl rfl, fun w' hw => c_rlast (s := g) (A := A) (c := c) wf_g (ok.keep hw) hbl⟩, ⟨ent Try.func38 rfl rfl, fun w' hw => ret_eq (congrArg Value.bool k6) ((fun w' hw => c_rbefore wf_r.fin (Last_bd _ wf_g)) w' hw)⟩, trivial, congrArg Value.bool k2, ⟨ent Try.func23 rfl rfl, fun w' hw => c_rgap wf_g.ack wf_r.fin⟩, congrArg Value.bool k7, trivial⟩)
set_option maxRecDepth 100000 in
theorem c_rwhy_25 {w : World} (s : Sd) (r : Sd) (g : Sg)  {A : Option Addr} {c : Nat} (ok : g.Ok A c w) (hd : g.data.size ≤ 1000000) (hbl : g.blocks.length ≤ 1000000) (wf_s : s.Wf) (wf_r : r.Wf) (wf_g : g.Wf) (h0 : (s.on) = true) (h1 : (r.on) = true) (h2 : (decide ((G s.max (EndS g)) > 1)) = false) (h3 : (decide ((G (EndS g) s.fin) > (IntKind.i64.wrap (r.win + 1)))) = false) (h4 : ((Go.bits .and .i64 g.flags 16) != 0) = true) (h5 : (decide (0 < G r.fin g.ack)) = false) (h6 : (decide (0 < G r.fin (Last g))) = false) (h7 : (decide ((G g.ack r.fin) > (IntKind.i64.wrap (s.win + 1)))) = true) : Calls Try.prog 15 #[s.V, r.V, g.V A c] w fun e w' => e = .returned (.int .i64 4) ∧ Below w.heap.size w w' :=
  calls_of_check rfl Try.func15 1000000 [s.V, r.V, g.V A c] [(.callp 19 [.av (.one (.v s.V)), .av (.one (.v r.V)), .av (.one (.v (g.V A c)))] (c_rwhy_hp0 s r g A c) (c_rwhy_up15 s r g A c) (.av (.one (.u 87 1))))] (by kernel_rfl) (by kernel_rfl)
    (by exact ⟨⟨ent Try.func19 rfl rfl, c_rwhy_s25 s r g ok hd hbl wf_s wf_r wf_g h4 h0 h1 h2 h3 h5 h6 h7⟩, trivial⟩)
set_option maxRecDepth 100000 in
theorem c_rwhy_s26 {w : World} (s : Sd) (r : Sd) (g : Sg)  {A : Option Addr} {c : Nat} (ok : g.Ok A c w) (hd : g.data.size ≤ 1000000) (hbl : g.blocks.length ≤ 1000000) (wf_s : s.Wf) (wf_r : r.Wf) (wf_g : g.Wf) (k0 : ((Go.bits .and .i64 g.flags 16) != 0) = true) (k1 : (s.on) = true) (k2 : (r.on) = true) (k3 : (decide ((G s.max (EndS g)) > 1)) = false) (k4 : (decide ((G (EndS g) s.fin) > (IntKind.i64.wrap (r.win + 1)))) = false) (k5 : (decide (0 < G r.fin g.ack)) = false) (k6 : (decide (0 < G r.fin (Last g))) = false) (k7 : (decide ((G g.ack r.fin) > (IntKind.i64.wrap (s.win + 1)))) = false) : PCalls Try.prog 19 [.av (.one (.v s.V)), .av (.one (.v r.V)), .av (.one (.v (g.V A c)))] (c_rwhy_hp0 s r g A c) (upsB (c_rwhy_hp0 s r g A c) (c_rwhy_up16 s r g A c)) (.av (.one (.v (.slice none 0 0)))) (w, []) :=
  pcalls_of_check rfl Try.func19 1000000 [.av (.one (.v s.V)), .av (.one (.v r.V)), .av (.one (.v (g.V A c)))] (c_rwhy_hp0 s r g A c) [(.cast 13 (.bool ((Go.bits .and .i64 g.flags 16) != 0)) (.bool true)),
    (.call 24 [g.V A c] (.int .u32 (EndS g))),
    (.cast 17 (.bool s.on) (.bool true)),
    (.cast 20 (.bool r.on) (.bool true)),
    (.call 23 [.int .u32 s.max, .int .u32 (EndS g)] (.int .i64 (G s.max (EndS g)))),
    (.cast 27 (.bool (decide ((G s.max (EndS g)) > 1))) (.bool false)),
    (.sched c_rwhy_T0 c_rwhy_B0 [(92, 0), (92, 1), (93, 5)] [] (.s 0 0 (.s 1 1 (.s 0 2 (.s 0 3 (.s 0 4 (.s 0 7 (.s 1 5 (.s 1 8 (.s 0 9 (.s 2 6 (.s 0 10 (.s 0 11 .e))))))))))))),
    (.cast 33 (.bool s.on) (.bool true)),
    (.call 23 [.int .u32 (EndS g), .int .u32 s.fin] (.int .i64 (G (EndS g) s.fin))),
    (.cast 42 (.bool (decide ((G (EndS g) s.fin) > (IntKind.i64.wrap (r.win + 1))))) (.bool false)),
    (.sched c_rwhy_T1 c_rwhy_B1 [(93, 0), (93, 1), (94, 0), (94, 1), (94, 2), (94, 3), (94, 4), (94, 5), (94, 6), (94, 7), (94, 8), (94, 9), (94, 10), (94, 11), (94, 12), (94, 13), (94, 14)] [] (.s 0 0 (.s 1 1 (.s 0 2 (.s 0 3 (.s 0 4 (.s 0 5 (.s 0 6 (.s 0 8 (.s 1 7 (.s 1 9 (.s 2 10 (.s 0 11 (.s 0 12 (.s 1 13 (.s 1 14 (.s 2 15 (.s 2 16 (.s 0 17 (.s 0 18 .e)))))))))))))))))))),
    (.cast 48 (.bool r.on) (.bool true)),
    (.call 38 [.int .u32 r.fin, .int .u32 g.ack] (.bool false)),
    (.call 42 [g.V A c] (.int .u32 (Last g))),
    (.call 38 [.int .u32 r.fin, .int .u32 (Last g)] (.bool false)),
    (.sched c_rwhy_T2 c_rwhy_B2 [(92, 5), (93, 0), (93, 1), (94, 3)] [] (.s 0 0 (.s 1 1 (.s 0 2 (.s 0 3 (.s 0 4 (.s 0 5 (.s 0 6 (.s 0 8 (.s 0 11 (.s 1 7 (.s 1 9 (.s 1 12 (.s 0 13 (.s 2 10 (.s 0 14 (.s 0 15 .e))))))))))))))))),
    (.cast 70 (.bool r.on) (.bool true)),
    (.call 23 [.int .u32 g.ack, .int .u32 r.fin] (.int .i64 (G g.ack r.fin))),
    (.cast 83 (.bool (decide ((G g.ack r.fin) > (IntKind.i64.wrap (s.win + 1))))) (.bool false))] (c_rwhy_up16 s r g A c) (by kernel_rfl) (by kernel_rfl)
    (by exact ⟨congrArg Value.bool k0, ⟨ent Try.func24 rfl rfl, fun w' hw => c_rend (s := g) (A := A) (c := c) wf_g (ok.keep hw) hd⟩, congrArg Value.bool k1, congrArg Value.bool k2, ⟨ent Try.func23 rfl rfl, fun w' hw => c_rgap wf_s.max (EndS_bd _)⟩, congrArg Value.bool k3, trivial, congrArg Value.bool k1, ⟨ent Try.func23 rfl rfl, fun w' hw => c_rgap (EndS_bd _) wf_s.fin⟩, congrArg Value.bool k4, trivial, congrArg Value.bool k2, ⟨ent Try.func38 rfl rfl, fun w' hw => ret_eq (congrArg Value.bool k5) ((fun w' hw => c_rbefore wf_r.fin wf_g.ack) w' hw)⟩, ⟨ent Try.func42 rfl rfl, fun w' hw => c_rlast (s := g) (A := A) (c := c) wf_g (ok.keep hw) hbl⟩, ⟨ent Try.func38 rfl rfl, fun w' hw => ret_eq (congrArg Value.bool k6) ((fun w' hw => c_rbefore wf_r.fin (Last_bd _ wf_g)) w' hw)⟩, trivial, congrArg Value.bool k2, ⟨ent Try.func23 rfl rfl, fun w' hw => c_rgap wf_g.ack wf_r.fin⟩, congrArg Value.bool k7, trivial⟩)
set_option maxRecDepth 100000 in
theorem c_rwhy_26 {w : World} (s : Sd) (r : Sd) (g : Sg)  {A : Option Addr} {c : Nat} (ok : g.Ok A c w) (hd : g.data.size ≤ 1000000) (hbl : g.blocks.length ≤ 1000000) (wf_s : s.Wf) (wf_r : r.Wf) (wf_g : g.Wf) (h0 : (s.on) = true) (h1 : (r.on) = true) (h2 : (decide ((G s.max (EndS g)) > 1)) = false) (h3 : (decide ((G (EndS g) s.fin) > (IntKind.i64.wrap (r.win + 1)))) = false) (h4 : ((Go.bits .and .i64 g.flags 16) != 0) = true) (h5 : (decide (0 < G r.fin g.ack)) = false) (h6 : (decide (0 < G r.fin (Last g))) = false) (h7 : (decide ((G g.ack r.fin) > (IntKind.i64.wrap (s.win + 1)))) = false) : Calls Try.prog 15 #[s.V, r.V, g.V A c] w fun e w' => e = .returned (.int .i64 0) ∧ Below w.heap.size w w' :=
  calls_of_check rfl Try.func15 1000000 [s.V, r.V, g.V A c] [(.callp 19 [.av (.one (.v s.V)), .av (.one (.v r.V)), .av (.one (.v (g.V A c)))] (c_rwhy_hp0 s r g A c) (c_rwhy_up16 s r g A c) (.av (.one (.v (.slice none 0 0)))))] (by kernel_rfl) (by kernel_rfl)
    (by exact ⟨⟨ent Try.func19 rfl rfl, c_rwhy_s26 s r g ok hd hbl wf_s wf_r wf_g h4 h0 h1 h2 h3 h5 h6 h7⟩, trivial⟩)
set_option maxRecDepth 100000 in
theorem c_rwhy_s27 {w : World} (s : Sd) (r : Sd) (g : Sg)  {A : Option Addr} {c : Nat} (ok : g.Ok A c w) (hd : g.data.size ≤ 1000000) (hbl : g.blocks.length ≤ 1000000) (wf_s : s.Wf) (wf_r : r.Wf) (wf_g : g.Wf) (k0 : ((Go.bits .and .i64 g.flags 16) != 0) = false) (k1 : (s.on) = true) (k2 : (r.on) = true) (k3 : (decide ((G s.max (EndS g)) > 1)) = false) (k4 : (decide ((G (EndS g) s.fin) > (IntKind.i64.wrap (r.win + 1)))) = false) : PCalls Try.prog 19 [.av (.one (.v s.V)), .av (.one (.v r.V)), .av (.one (.v (g.V A c)))] (c_rwhy_hp0 s r g A c) (upsB (c_rwhy_hp0 s r g A c) (c_rwhy_up16 s r g A c)) (.av (.one (.v (.slice none 0 0)))) (w, []) :=
  pcalls_of_check rfl Try.func19 1000000 [.av (.one (.v s.V)), .av (.one (.v r.V)), .av (.one (.v (g.V A c)))] (c_rwhy_hp0 s r g A c) [(.cast 13 (.bool ((Go.bits .and .i64 g.flags 16) != 0)) (.bool false)),
    (.call 24 [g.V A c] (.int .u32 (EndS g))),
    (.cast 17 (.bool s.on) (.bool true)),
    (.cast 20 (.bool r.on) (.bool true)),
    (.call 23 [.int .u32 s.max, .int .u32 (EndS g)] (.int .i64 (G s.max (EndS g)))),
    (.cast 27 (.bool (decide ((G s.max (EndS g)) > 1))) (.bool false)),
    (.sched c_rwhy_T0 c_rwhy_B0 [(92, 0), (92, 1), (93, 5)] [] (.s 0 0 (.s 1 1 (.s 0 2 (.s 0 3 (.s 0 4 (.s 0 7 (.s 1 5 (.s 1 8 (.s 0 9 (.s 2 6 (.s 0 10 (.s 0 11 .e))))))))))))),
    (.cast 33 (.bool s.on) (.bool true)),
    (.call 23 [.int .u32 (EndS g), .int .u32 s.fin] (.int .i64 (G (EndS g) s.fin))),
    (.cast 42 (.bool (decide ((G (EndS g) s.fin) > (IntKind.i64.wrap (r.win + 1))))) (.bool false)),
    (.sched c_rwhy_T1 c_rwhy_B1 [(93, 0)] [] (.s 0 0 (.s 1 1 (.s 0 2 (.s 0 3 (.s 0 4 (.s 0 5 (.s 0 6 (.s 0 7 (.s 0 8 (.s 0 9 (.s 0 10 (.s 0 11 (.s 0 12 (.s 0 13 (.s 0 14 (.s 0 15 (.s 0 16 (.s 0 17 (.s 0 18 .e)))))))))))))))))))),
    (.cast 48 (.bool r.on) (.bool true)),
    (.sched c_rwhy_T2 c_rwhy_B2 [(93, 0)] [] (.s 0 0 (.s 1 1 (.s 0 2 (.s 0 3 (.s 0 4 (.s 0 5 (.s 0 6 (.s 0 7 (.s 0 8 (.s 0 9 (.s 0 10 (.s 0 11 (.s 0 12 (.s 0 13 (.s 0 14 (.s 0 15 .e))))))))))))))))),
    (.cast 70 (.bool r.on) (.bool true))] (c_rwhy_up16 s r g A c) (by kernel_rfl) (by kernel_rfl)
    (by exact ⟨congrArg Value.bool k0, ⟨ent Try.func24 rfl rfl, fun w' hw => c_rend (s := g) (A := A) (c := c) wf_g (ok.keep hw) hd⟩, congrArg Value.bool k1, congrArg Value.bool k2, ⟨ent Try.func23 rfl rfl, fun w' hw => c_rgap wf_s.max (EndS_bd _)⟩, congrArg Value.bool k3, trivial, congrArg Value.bool k1, ⟨ent Try.func23 rfl rfl, fun w' hw => c_rgap (EndS_bd _) wf_s.fin⟩, congrArg Value.bool k4, trivial, congrArg Value.bool k2, trivial, congrArg Value.bool k2, trivial⟩)
set_option maxRecDepth 100000 in
theorem c_rwhy_27 {w : World} (s : Sd) (r : Sd) (g : Sg)  {A : Option Addr} {c : Nat} (ok : g.Ok A c w) (hd : g.data.size ≤ 1000000) (hbl : g.blocks.length ≤ 1000000) (wf_s : s.Wf) (wf_r : r.Wf) (wf_g : g.Wf) (h0 : (s.on) = true) (h1 : (r.on) = true) (h2 : (decide ((G s.max (EndS g)) > 1)) = false) (h3 : (decide ((G (EndS g) s.fin) > (IntKind.i64.wrap (r.win + 1)))) = false) (h4 : ((Go.bits .and .i64 g.flags 16) != 0) = false) : Calls Try.prog 15 #[s.V, r.V, g.V A c] w fun e w' => e = .returned (.int .i64 0) ∧ Below w.heap.size w w' :=
  calls_of_check rfl Try.func15 1000000 [s.V, r.V, g.V A c] [(.callp 19 [.av (.one (.v s.V)), .av (.one (.v r.V)), .av (.one (.v (g.V A c)))] (c_rwhy_hp0 s r g A c) (c_rwhy_up16 s r g A c) (.av (.one (.v (.slice none 0 0)))))] (by kernel_rfl) (by kernel_rfl)
    (by exact ⟨⟨ent Try.func19 rfl rfl, c_rwhy_s27 s r g ok hd hbl wf_s wf_r wf_g h4 h0 h1 h2 h3⟩, trivial⟩)
set_option maxRecDepth 100000 in
theorem c_rwhy_s28 {w : World} (s : Sd) (r : Sd) (g : Sg)  {A : Option Addr} {c : Nat} (ok : g.Ok A c w) (hd : g.data.size ≤ 1000000) (hbl : g.blocks.length ≤ 1000000) (wf_s : s.Wf) (wf_r : r.Wf) (wf_g : g.Wf) (k0 : (s.on) = true) (k1 : (r.on) = false) (k2 : (decide ((G (EndS g) s.fin) > (IntKind.i64.wrap (r.win + 1)))) = true) : PCalls Try.prog 19 [.av (.one (.v s.V)), .av (.one (.v r.V)), .av (.one (.v (g.V A c)))] (c_rwhy_hp0 s r g A c) (upsB (c_rwhy_hp0 s r g A c) (c_rwhy_up12 s r g A c)) (.av (.one (.u 46 1))) (w, []) :=
  pcalls_of_check rfl Try.func19 1000000 [.av (.one (.v s.V)), .av (.one (.v r.V)), .av (.one (.v (g.V A c)))] (c_rwhy_hp0 s r g A c) [(.call 24 [g.V A c] (.int .u32 (EndS g))),
    (.cast 17 (.bool s.on) (.bool true)),
    (.cast 20 (.bool r.on) (.bool false)),
    (.sched c_rwhy_T0 c_rwhy_B0 [(92, 0), (92, 1), (93, 5)] [] (.s 0 0 (.s 1 1 (.s 0 2 (.s 0 3 (.s 0 4 (.s 0 7 (.s 1 5 (.s 1 8 (.s 0 9 (.s 2 6 (.s 0 10 (.s 0 11 .e))))))))))))),
    (.cast 33 (.bool s.on) (.bool true)),
    (.call 23 [.int .u32 (EndS g), .int .u32 s.fin] (.int .i64 (G (EndS g) s.fin))),
    (.cast 42 (.bool (decide ((G (EndS g) s.fin) > (IntKind.i64.wrap (r.win + 1))))) (.bool true)),
    (.sched c_rwhy_T1 c_rwhy_B1 [(93, 0)] [] (.s 0 0 (.s 1 1 (.s 0 2 (.s 0 3 (.s 0 4 (.s 0 5 (.s 0 6 (.s 0 7 (.s 0 8 (.s 0 9 (.s 0 10 (.s 0 11 (.s 0 12 (.s 0 13 (.s 0 14 (.s 0 15 (.s 0 16 (.s 0 17 (.s 0 18 .e)))))))))))))))))))),
    (.cast 48 (.bool r.on) (.bool false)),
    (.sched c_rwhy_T2 c_rwhy_B2 [(93, 0)] [] (.s 0 0 (.s 1 1 (.s 0 2 (.s 0 3 (.s 0 4 (.s 0 5 (.s 0 6 (.s 0 7 (.s 0 8 (.s 0 9 (.s 0 10 (.s 0 11 (.s 0 12 (.s 0 13 (.s 0 14 (.s 0 15 .e))))))))))))))))),
    (.cast 70 (.bool r.on) (.bool false))] (c_rwhy_up12 s r g A c) (by kernel_rfl) (by kernel_rfl)
    (by exact ⟨⟨ent Try.func24 rfl rfl, fun w' hw => c_rend (s := g) (A := A) (c := c) wf_g (ok.keep hw) hd⟩, congrArg Value.bool k0, congrArg Value.bool k1, trivial, congrArg Value.bool k0, ⟨ent Try.func23 rfl rfl, fun w' hw => c_rgap (EndS_bd _) wf_s.fin⟩, congrArg Value.bool k2, trivial, congrArg Value.bool k1, trivial, congrArg Value.bool k1, trivial⟩)
set_option maxRecDepth 100000 in
theorem c_rwhy_28 {w : World} (s : Sd) (r : Sd) (g : Sg)  {A : Option Addr} {c : Nat} (ok : g.Ok A c w) (hd : g.data.size ≤ 1000000) (hbl : g.blocks.length ≤ 1000000) (wf_s : s.Wf) (wf_r : r.Wf) (wf_g : g.Wf) (h0 : (s.on) = true) (h1 : (r.on) = false) (h2 : (decide ((G (EndS g) s.fin) > (IntKind.i64.wrap (r.win + 1)))) = true) : Calls Try.prog 15 #[s.V, r.V, g.V A c] w fun e w' => e = .returned (.int .i64 2) ∧ Below w.heap.size w w' :=
  calls_of_check rfl Try.func15 1000000 [s.V, r.V, g.V A c] [(.callp 19 [.av (.one (.v s.V)), .av (.one (.v r.V)), .av (.one (.v (g.V A c)))] (c_rwhy_hp0 s r g A c) (c_rwhy_up12 s r g A c) (.av (.one (.u 46 1))))] (by kernel_rfl) (by kernel_rfl)
    (by exact ⟨⟨ent Try.func19 rfl rfl, c_rwhy_s28 s r g ok hd hbl wf_s wf_r wf_g h0 h1 h2⟩, trivial⟩)
set_option maxRecDepth 100000 in
theorem c_rwhy_s29 {w : World} (s : Sd) (r : Sd) (g : Sg)  {A : Option Addr} {c : Nat} (ok : g.Ok A c w) (hd : g.data.size ≤ 1000000) (hbl : g.blocks.length ≤ 1000000) (wf_s : s.Wf) (wf_r : r.Wf) (wf_g : g.Wf) (k0 : (s.on) = true) (k1 : (r.on) = false) (k2 : (decide ((G (EndS g) s.fin) > (IntKind.i64.wrap (r.win + 1)))) = false) : PCalls Try.prog 19 [.av (.one (.v s.V)), .av (.one (.v r.V)), .av (.one (.v (g.V A c)))] (c_rwhy_hp0 s r g A c) (upsB (c_rwhy_hp0 s r g A c) (c_rwhy_up16 s r g A c)) (.av (.one (.v (.slice none 0 0)))) (w, []) :=
  pcalls_of_check rfl Try.func19 1000000 [.av (.one (.v s.V)), .av (.one (.v r.V)), .av (.one (.v (g.V A c)))] (c_rwhy_hp0 s r g A c) [(.call 24 [g.V A c] (.int .u32 (EndS g))),
    (.cast 17 (.bool s.on) (.bool true)),
    (.cast 20 (.bool r.on) (.bool false)),
    (.sched c_rwhy_T0 c_rwhy_B0 [(92, 0), (92, 1), (93, 5)] [] (.s 0 0 (.s 1 1 (.s 0 2 (.s 0 3 (.s 0 4 (.s 0 7 (.s 1 5 (.s 1 8 (.s 0 9 (.s 2 6 (.s 0 10 (.s 0 11 .e))))))))))))),
    (.cast 33 (.bool s.on) (.bool true)),
    (.call 23 [.int .u32 (EndS g), .int .u32 s.fin] (.int .i64 (G (EndS g) s.fin))),
    (.cast 42 (.bool (decide ((G (EndS g) s.fin) > (IntKind.i64.wrap (r.win + 1))))) (.bool false)),
    (.sched c_rwhy_T1 c_rwhy_B1 [(93, 0)] [] (.s 0 0 (.s 1 1 (.s 0 2 (.s 0 3 (.s 0 4 (.s 0 5 (.s 0 6 (.s 0 7 (.s 0 8 (.s 0 9 (.s 0 10 (.s 0 11 (.s 0 12 (.s 0 13 (.s 0 14 (.s 0 15 (.s 0 16 (.s 0 17 (.s 0 18 .e)))))))))))))))))))),
    (.cast 48 (.bool r.on) (.bool false)),
    (.sched c_rwhy_T2 c_rwhy_B2 [(93, 0)] [] (.s 0 0 (.s 1 1 (.s 0 2 (.s 0 3 (.s 0 4 (.s 0 5 (.s 0 6 (.s 0 7 (.s 0 8 (.s 0 9 (.s 0 10 (.s 0 11 (.s 0 12 (.s 0 13 (.s 0 14 (.s 0 15 .e))))))))))))))))),
    (.cast 70 (.bool r.on) (.bool false))] (c_rwhy_up16 s r g A c) (by kernel_rfl) (by kernel_rfl)
    (by exact ⟨⟨ent Try.func24 rfl rfl, fun w' hw => c_rend (s := g) (A := A) (c := c) wf_g (ok.keep hw) hd⟩, congrArg Value.bool k0, congrArg Value.bool k1, trivial, congrArg Value.bool k0, ⟨ent Try.func23 rfl rfl, fun w' hw => c_rgap (EndS_bd _) wf_s.fin⟩, congrArg Value.bool k2, trivial, congrArg Value.bool k1, trivial, congrArg Value.bool k1, trivial⟩)
set_option maxRecDepth 100000 in
theorem c_rwhy_29 {w : World} (s : Sd) (r : Sd) (g : Sg)  {A : Option Addr} {c : Nat} (ok : g.Ok A c w) (hd : g.data.size ≤ 1000000) (hbl : g.blocks.length ≤ 1000000) (wf_s : s.Wf) (wf_r : r.Wf) (wf_g : g.Wf) (h0 : (s.on) = true) (h1 : (r.on) = false) (h2 : (decide ((G (EndS g) s.fin) > (IntKind.i64.wrap (r.win + 1)))) = false) : Calls Try.prog 15 #[s.V, r.V, g.V A c] w fun e w' => e = .returned (.int .i64 0) ∧ Below w.heap.size w w' :=
  calls_of_check rfl Try.func15 1000000 [s.V, r.V, g.V A c] [(.callp 19 [.av (.one (.v s.V)), .av (.one (.v r.V)), .av (.one (.v (g.V A c)))] (c_rwhy_hp0 s r g A c) (c_rwhy_up16 s r g A c) (.av (.one (.v (.slice none 0 0)))))] (by kernel_rfl) (by kernel_rfl)
    (by exact ⟨⟨ent Try.func19 rfl rfl, c_rwhy_s29 s r g ok hd hbl wf_s wf_r wf_g h0 h1 h2⟩, trivial⟩)
set_option maxRecDepth 100000 in
theorem c_rwhy_s30 {w : World} (s : Sd) (r : Sd) (g : Sg)  {A : Option Addr} {c : Nat} (ok : g.Ok A c w) (hd : g.data.size ≤ 1000000) (hbl : g.blocks.length ≤ 1000000) (wf_s : s.Wf) (wf_r : r.Wf) (wf_g : g.Wf) (k0 : ((Go.bits .and .i64 g.flags 16) != 0) = true) (k1 : (s.on) = false) (k2 : (r.on) = true) (k3 : (decide (0 < G r.fin g.ack)) = true) (k4 : (decide ((G g.ack r.fin) > (IntKind.i64.wrap (s.win + 1)))) = true) : PCalls Try.prog 19 [.av (.one (.v s.V)), .av (.one (.v r.V)), .av (.one (.v (g.V A c)))] (c_rwhy_hp0 s r g A c) (upsB (c_rwhy_hp0 s r g A c) (c_rwhy_up13 s r g A c)) (.av (.one (.u 87 2))) (w, []) :=
  pcalls_of_check rfl Try.func19 1000000 [.av (.one (.v s.V)), .av (.one (.v r.V)), .av (.one (.v (g.V A c)))] (c_rwhy_hp0 s r g A c) [(.cast 13 (.bool ((Go.bits .and .i64 g.flags 16) != 0)) (.bool true)),
    (.call 24 [g.V A c] (.int .u32 (EndS g))),
    (.cast 17 (.bool s.on) (.bool false)),
    (.sched c_rwhy_T0 c_rwhy_B0 [(92, 0)] [] (.s 0 0 (.s 1 1 (.s 0 2 (.s 0 3 (.s 0 4 (.s 0 5 (.s 0 6 (.s 0 7 (.s 0 8 (.s 0 9 (.s 0 10 (.s 0 11 .e))))))))))))),
    (.cast 33 (.bool s.on) (.bool false)),
    (.sched c_rwhy_T1 c_rwhy_B1 [(93, 0), (93, 1), (94, 3)] [] (.s 0 0 (.s 1 1 (.s 0 2 (.s 0 3 (.s 0 4 (.s 0 5 (.s 0 6 (.s 0 8 (.s 1 7 (.s 1 9 (.s 2 10 (.s 0 11 (.s 0 12 (.s 0 13 (.s 0 14 (.s 0 15 (.s 0 16 (.s 0 17 (.s 0 18 .e)))))))))))))))))))),
    (.cast 48 (.bool r.on) (.bool true)),
    (.call 38 [.int .u32 r.fin, .int .u32 g.ack] (.bool true)),
    (.sched c_rwhy_T2 c_rwhy_B2 [(92, 5), (93, 0), (93, 1), (94, 3)] [] (.s 0 0 (.s 1 1 (.s 0 2 (.s 0 3 (.s 0 4 (.s 0 5 (.s 0 6 (.s 0 8 (.s 0 11 (.s 1 7 (.s 1 9 (.s 1 12 (.s 0 13 (.s 2 10 (.s 0 14 (.s 0 15 .e))))))))))))))))),
    (.cast 70 (.bool r.on) (.bool true)),
    (.call 23 [.int .u32 g.ack, .int .u32 r.fin] (.int .i64 (G g.ack r.fin))),
    (.cast 83 (.bool (decide ((G g.ack r.fin) > (IntKind.i64.wrap (s.win + 1))))) (.bool true))] (c_rwhy_up13 s r g A c) (by kernel_rfl) (by kernel_rfl)
    (by exact ⟨congrArg Value.bool k0, ⟨ent Try.func24 rfl rfl, fun w' hw => c_rend (s := g) (A := A) (c := c) wf_g (ok.keep hw) hd⟩, congrArg Value.bool k1, trivial, congrArg Value.bool k1, trivial, congrArg Value.bool k2, ⟨ent Try.func38 rfl rfl, fun w' hw => ret_eq (congrArg Value.bool k3) ((fun w' hw => c_rbefore wf_r.fin wf_g.ack) w' hw)⟩, trivial, congrArg Value.bool k2, ⟨ent Try.func23 rfl rfl, fun w' hw => c_rgap wf_g.ack wf_r.fin⟩, congrArg Value.bool k4, trivial⟩)
set_option maxRecDepth 100000 in
theorem c_rwhy_30 {w : World} (s : Sd) (r : Sd) (g : Sg)  {A : Option Addr} {c : Nat} (ok : g.Ok A c w) (hd : g.data.size ≤ 1000000) (hbl : g.blocks.length ≤ 1000000) (wf_s : s.Wf) (wf_r : r.Wf) (wf_g : g.Wf) (h0 : (s.on) = false) (h1 : (r.on) = true) (h2 : ((Go.bits .and .i64 g.flags 16) != 0) = true) (h3 : (decide (0 < G r.fin g.ack)) = true) (h4 : (decide ((G g.ack r.fin) > (IntKind.i64.wrap (s.win + 1)))) = true) : Calls Try.prog 15 #[s.V, r.V, g.V A c] w fun e w' => e = .returned (.int .i64 3) ∧ Below w.heap.size w w' :=
  calls_of_check rfl Try.func15 1000000 [s.V, r.V, g.V A c] [(.callp 19 [.av (.one (.v s.V)), .av (.one (.v r.V)), .av (.one (.v (g.V A c)))] (c_rwhy_hp0 s r g A c) (c_rwhy_up13 s r g A c) (.av (.one (.u 87 2))))] (by kernel_rfl) (by kernel_rfl)
    (by exact ⟨⟨ent Try.func19 rfl rfl, c_rwhy_s30 s r g ok hd hbl wf_s wf_r wf_g h2 h0 h1 h3 h4⟩, trivial⟩)
set_option maxRecDepth 100000 in
theorem c_rwhy_s31 {w : World} (s : Sd) (r : Sd) (g : Sg)  {A : Option Addr} {c : Nat} (ok : g.Ok A c w) (hd : g.data.size ≤ 1000000) (hbl : g.blocks.length ≤ 1000000) (wf_s : s.Wf) (wf_r : r.Wf) (wf_g : g.Wf) (k0 : ((Go.bits .and .i64 g.flags 16) != 0) = true) (k1 : (s.on) = false) (k2 : (r.on) = true) (k3 : (decide (0 < G r.fin g.ack)) = true) (k4 : (decide ((G g.ack r.fin) > (IntKind.i64.wrap (s.win + 1)))) = false) : PCalls Try.prog 19 [.av (.one (.v s.V)), .av (.one (.v r.V)), .av (.one (.v (g.V A c)))] (c_rwhy_hp0 s r g A c) (upsB (c_rwhy_hp0 s r g A c) (c_rwhy_up14 s r g A c)) (.av (.one (.u 68 1))) (w, []) :=
  pcalls_of_check rfl Try.func19 1000000 [.av (.one (.v s.V)), .av (.one (.v r.V)), .av (.one (.v (g.V A c)))] (c_rwhy_hp0 s r g A c) [(.cast 13 (.bool ((Go.bits .and .i64 g.flags 16) != 0)) (.bool true)),
    (.call 24 [g.V A c] (.int .u32 (EndS g))),
    (.cast 17 (.bool s.on) (.bool false)),
    (.sched c_rwhy_T0 c_rwhy_B0 [(92, 0)] [] (.s 0 0 (.s 1 1 (.s 0 2 (.s 0 3 (.s 0 4 (.s 0 5 (.s 0 6 (.s 0 7 (.s 0 8 (.s 0 9 (.s 0 10 (.s 0 11 .e))))))))))))),
    (.cast 33 (.bool s.on) (.bool false)),
    (.sched c_rwhy_T1 c_rwhy_B1 [(93, 0), (93, 1), (94, 3)] [] (.s 0 0 (.s 1 1 (.s 0 2 (.s 0 3 (.s 0 4 (.s 0 5 (.s 0 6 (.s 0 8 (.s 1 7 (.s 1 9 (.s 2 10 (.s 0 11 (.s 0 12 (.s 0 13 (.s 0 14 (.s 0 15 (.s 0 16 (.s 0 17 (.s 0 18 .e)))))))))))))))))))),
    (.cast 48 (.bool r.on) (.bool true)),
    (.call 38 [.int .u32 r.fin, .int .u32 g.ack] (.bool true)),
    (.sched c_rwhy_T2 c_rwhy_B2 [(92, 5), (93, 0), (93, 1), (94, 3)] [] (.s 0 0 (.s 1 1 (.s 0 2 (.s 0 3 (.s 0 4 (.s 0 5 (.s 0 6 (.s 0 8 (.s 0 11 (.s 1 7 (.s 1 9 (.s 1 12 (.s 0 13 (.s 2 10 (.s 0 14 (.s 0 15 .e))))))))))))))))),
    (.cast 70 (.bool r.on) (.bool true)),
    (.call 23 [.int .u32 g.ack, .int .u32 r.fin] (.int .i64 (G g.ack r.fin))),
    (.cast 83 (.bool (decide ((G g.ack r.fin) > (IntKind.i64.wrap (s.win + 1))))) (.bool false))] (c_rwhy_up14 s r g A c) (by kernel_rfl) (by kernel_rfl)
    (by exact ⟨congrArg Value.bool k0, ⟨ent Try.func24 rfl rfl, fun w' hw => c_rend (s := g) (A := A) (c := c) wf_g (ok.keep hw) hd⟩, congrArg Value.bool k1, trivial, congrArg Value.bool k1, trivial, congrArg Value.bool k2, ⟨ent Try.func38 rfl rfl, fun w' hw => ret_eq (congrArg Value.bool k3) ((fun w' hw => c_rbefore wf_r.fin wf_g.ack) w' hw)⟩, trivial, congrArg Value.bool k2, ⟨ent Try.func23 rfl rfl, fun w' hw => c_rgap wf_g.ack wf_r.fin⟩, congrArg Value.bool k4, trivial⟩)
set_option maxRecDepth 100000 in
theorem c_rwhy_31 {w : World} (s : Sd) (r : Sd) (g : Sg)  {A : Option Addr} {c : Nat} (ok : g.Ok A c w) (hd : g.data.size ≤ 1000000) (hbl : g.blocks.length ≤ 1000000) (wf_s : s.Wf) (wf_r : r.Wf) (wf_g : g.Wf) (h0 : (s.on) = false) (h1 : (r.on) = true) (h2 : ((Go.bits .and .i64 g.flags 16) != 0) = true) (h3 : (decide (0 < G r.fin g.ack)) = true) (h4 : (decide ((G g.ack r.fin) > (IntKind.i64.wrap (s.win + 1)))) = false) : Calls Try.prog 15 #[s.V, r.V, g.V A c] w fun e w' => e = .returned (.int .i64 3) ∧ Below w.heap.size w w' :=
  calls_of_check rfl Try.func15 1000000 [s.V, r.V, g.V A c] [(.callp 19 [.av (.one (.v s.V)), .av (.one (.v r.V)), .av (.one (.v (g.V A c)))] (c_rwhy_hp0 s r g A c) (c_rwhy_up14 s r g A c) (.av (.one (.u 68 1))))] (by kernel_rfl) (by kernel_rfl)
    (by exact ⟨⟨ent Try.func19 rfl rfl, c_rwhy_s31 s r g ok hd hbl wf_s wf_r wf_g h2 h0 h1 h3 h4⟩, trivial⟩)
set_option maxRecDepth 100000 in
theorem c_rwhy_s32 {w : World} (s : Sd) (r : Sd) (g : Sg)  {A : Option Addr} {c : Nat} (ok : g.Ok A c w) (hd : g.data.size ≤ 1000000) (hbl : g.blocks.length ≤ 1000000) (wf_s : s.Wf) (wf_r : r.Wf) (wf_g : g.Wf) (k0 : ((Go.bits .and .i64 g.flags 16) != 0) = true) (k1 : (s.on) = false) (k2 : (r.on) = true) (k3 : (decide (0 < G r.fin g.ack)) = false) (k4 : (decide (0 < G r.fin (Last g))) = true) (k5 : (decide ((G g.ack r.fin) > (IntKind.i64.wrap (s.win + 1)))) = true) : PCalls Try.prog 19 [.av (.one (.v s.V)), .av (.one (.v r.V)), .av (.one (.v (g.V A c)))] (c_rwhy_hp0 s r g A c) (upsB (c_rwhy_hp0 s r g A c) (c_rwhy_up13 s r g A c)) (.av (.one (.u 87 2))) (w, []) :=
  pcalls_of_check rfl Try.func19 1000000 [.av (.one (.v s.V)), .av (.one (.v r.V)), .av (.one (.v (g.V A c)))] (c_rwhy_hp0 s r g A c) [(.cast 13 (.bool ((Go.bits .and .i64 g.flags 16) != 0)) (.bool true)),
    (.call 24 [g.V A c] (.int .u32 (EndS g))),
    (.cast 17 (.bool s.on) (.bool false)),
    (.sched c_rwhy_T0 c_rwhy_B0 [(92, 0)] [] (.s 0 0 (.s 1 1 (.s 0 2 (.s 0 3 (.s 0 4 (.s 0 5 (.s 0 6 (.s 0 7 (.s 0 8 (.s 0 9 (.s 0 10 (.s 0 11 .e))))))))))))),
    (.cast 33 (.bool s.on) (.bool false)),
    (.sched c_rwhy_T1 c_rwhy_B1 [(93, 0), (93, 1), (94, 0), (94, 1), (94, 2), (94, 3), (94, 4), (94, 5), (94, 6), (94, 7), (94, 8), (94, 9), (94, 10), (94, 11), (94, 12), (94, 13), (94, 14)] [] (.s 0 0 (.s 1 1 (.s 0 2 (.s 0 3 (.s 0 4 (.s 0 5 (.s 0 6 (.s 0 8 (.s 1 7 (.s 1 9 (.s 2 10 (.s 0 11 (.s 0 12 (.s 1 13 (.s 1 14 (.s 2 15 (.s 2 16 (.s 0 17 (.s 0 18 .e)))))))))))))))))))),
    (.cast 48 (.bool r.on) (.bool true)),
    (.call 38 [.int .u32 r.fin, .int .u32 g.ack] (.bool false)),
    (.call 42 [g.V A c] (.int .u32 (Last g))),
    (.call 38 [.int .u32 r.fin, .int .u32 (Last g)] (.bool true)),
    (.sched c_rwhy_T2 c_rwhy_B2 [(92, 5), (93, 0), (93, 1), (94, 3)] [] (.s 0 0 (.s 1 1 (.s 0 2 (.s 0 3 (.s 0 4 (.s 0 5 (.s 0 6 (.s 0 8 (.s 0 11 (.s 1 7 (.s 1 9 (.s 1 12 (.s 0 13 (.s 2 10 (.s 0 14 (.s 0 15 .e))))))))))))))))),
    (.cast 70 (.bool r.on) (.bool true)),
    (.call 23 [.int .u32 g.ack, .int .u32 r.fin] (.int .i64 (G g.ack r.fin))),
    (.cast 83 (.bool (decide ((G g.ack r.fin) > (IntKind.i64.wrap (s.win + 1))))) (.bool true))] (c_rwhy_up13 s r g A c) (by kernel_rfl) (by kernel_rfl)
    (by exact ⟨congrArg Value.bool k0, ⟨ent Try.func24 rfl rfl, fun w' hw => c_rend (s := g) (A := A) (c := c) wf_g (ok.keep hw) hd⟩, congrArg Value.bool k1, trivial, congrArg Value.bool k1, trivial, congrArg Value.bool k2, ⟨ent Try.func38 rfl rfl, fun w' hw => ret_eq (congrArg Value.bool k3) ((fun w' hw => c_rbefore wf_r.fin wf_g.ack) w' hw)⟩, ⟨ent Try.func42 rfl rfl, fun w' hw => c_rlast (s := g) (A := A) (c := c) wf_g (ok.keep hw) hbl⟩, ⟨ent Try.func38 rfl rfl, fun w' hw => ret_eq (congrArg Value.bool k4) ((fun w' hw => c_rbefore wf_r.fin (Last_bd _ wf_g)) w' hw)⟩, trivial, congrArg Value.bool k2, ⟨ent Try.func23 rfl rfl, fun w' hw => c_rgap wf_g.ack wf_r.fin⟩, congrArg Value.bool k5, trivial⟩)
set_option maxRecDepth 100000 in
theorem c_rwhy_32 {w : World} (s : Sd) (r : Sd) (g : Sg)  {A : Option Addr} {c : Nat} (ok : g.Ok A c w) (hd : g.data.size ≤ 1000000) (hbl : g.blocks.length ≤ 1000000) (wf_s : s.Wf) (wf_r : r.Wf) (wf_g : g.Wf) (h0 : (s.on) = false) (h1 : (r.on) = true) (h2 : ((Go.bits .and .i64 g.flags 16) != 0) = true) (h3 : (decide (0 < G r.fin g.ack)) = false) (h4 : (decide (0 < G r.fin (Last g))) = true) (h5 : (decide ((G g.ack r.fin) > (IntKind.i64.wrap (s.win + 1)))) = true) : Calls Try.prog 15 #[s.V, r.V, g.V A c] w fun e w' => e = .returned (.int .i64 3) ∧ Below w.heap.size w w' :=
  calls_of_check rfl Try.func15 1000000 [s.V, r.V, g.V A c] [(.callp 19 [.av (.one (.v s.V)), .av (.one (.v r.V)), .av (.one (.v (g.V A c)))] (c_rwhy_hp0 s r g A c) (c_rwhy_up13 s r g A c) (.av (.one (.u 87 2))))] (by kernel_rfl) (by kernel_rfl)
    (by exact ⟨⟨ent Try.func19 rfl rfl, c_rwhy_s32 s r g ok hd hbl wf_s wf_r wf_g h2 h0 h1 h3 h4 h5⟩, trivial⟩)
set_option maxRecDepth 100000 in
theorem c_rwhy_s33 {w : World} (s : Sd) (r : Sd) (g : Sg)  {A : Option Addr} {c : Nat} (ok : g.Ok A c w) (hd : g.data.size ≤ 1000000) (hbl : g.blocks.length ≤ 1000000) (wf_s : s.Wf) (wf_r : r.Wf) (wf_g : g.Wf) (k0 : ((Go.bits .and .i64 g.flags 16) != 0) = true) (k1 : (s.on) = false) (k2 : (r.on) = true) (k3 : (decide (0 < G r.fin g.ack)) = false) (k4 : (decide (0 < G r.fin (Last g))) = true) (k5 : (decide ((G g.ack r.fin) > (IntKind.i64.wrap (s.win + 1)))) = false) : PCalls Try.prog 19 [.av (.one (.v s.V)), .av (.one (.v r.V)), .av (.one (.v (g.V A c)))] (c_rwhy_hp0 s r g A c) (upsB (c_rwhy_hp0 s r g A c) (c_rwhy_up14 s r g A c)) (.av (.one (.u 68 1))) (w, []) :=
  pcalls_of_check rfl Try.func19 1000000 [.av (.one (.v s.V)), .av (.one (.v r.V)), .av (.one (.v (g.V A c)))] (c_rwhy_hp0 s r g A c) [(.cast 13 (.bool ((Go.bits .and .i64 g.flags 16) != 0)) (.bool true)),
    (.call 24 [g.V A c] (.int .u32 (EndS g))),
    (.cast 17 (.bool s.on) (.bool false)),
    (.sched c_rwhy_T0 c_rwhy_B0 [(92, 0)] [] (.s 0 0 (.s 1 1 (.s 0 2 (.s 0 3 (.s 0 4 (.s 0 5 (.s 0 6 (.s 0 7 (.s 0 8 (.s 0 9 (.s 0 10 (.s 0 11 .e))))))))))))),
    (.cast 33 (.bool s.on) (.bool false)),
    (.sched c_rwhy_T1 c_rwhy_B1 [(93, 0), (93, 1), (94, 0), (94, 1), (94, 2), (94, 3), (94, 4), (94, 5), (94, 6), (94, 7), (94, 8), (94, 9), (94, 10), (94, 11), (94, 12), (94, 13), (94, 14)] [] (.s 0 0 (.s 1 1 (.s 0 2 (.s 0 3 (.s 0 4 (.s 0 5 (.s 0 6 (.s 0 8 (.s 1 7 (.s 1 9 (.s 2 10 (.s 0 11 (.s 0 12 (.s 1 13 (.s 1 14 (.s 2 15 (.s 2 16 (.s 0 17 (.s 0 18 .e)))))))))))))))))))),
    (.cast 48 (.bool r.on) (.bool true)),
    (.call 38 [.int .u32 r.fin, .int .u32 g.ack] (.bool false)),
    (.call 42 [g.V A c] (.int .u32 (Last g))),
    (.call 38 [.int .u32 r.fin, .int .u32 (Last g)] (.bool true)),
    (.sched c_rwhy_T2 c_rwhy_B2 [(92, 5), (93, 0), (93, 1), (94, 3)] [] (.s 0 0 (.s 1 1 (.s 0 2 (.s 0 3 (.s 0 4 (.s 0 5 (.s 0 6 (.s 0 8 (.s 0 11 (.s 1 7 (.s 1 9 (.s 1 12 (.s 0 13 (.s 2 10 (.s 0 14 (.s 0 15 .e))))))))))))))))),
    (.cast 70 (.bool r.on) (.bool true)),
    (.call 23 [.int .u32 g.ack, .int .u32 r.fin] (.int .i64 (G g.ack r.fin))),
    (.cast 83 (.bool (decide ((G g.ack r.fin) > (IntKind.i64.wrap (s.win + 1))))) (.bool false))] (c_rwhy_up14 s r g A c) (by kernel_rfl) (by kernel_rfl)
    (by exact ⟨congrArg Value.bool k0, ⟨ent Try.func24 rfl rfl, fun w' hw => c_rend (s := g) (A := A) (c := c) wf_g (ok.keep hw) hd⟩, congrArg Value.bool k1, trivial, congrArg Value.bool k1, trivial, congrArg Value.bool k2, ⟨ent Try.func38 rfl rfl, fun w' hw => ret_eq (congrArg Value.bool k3) ((fun w' hw => c_rbefore wf_r.fin wf_g.ack) w' hw)⟩, ⟨ent Try.func42 rfl rfl, fun w' hw => c_rlast (s := g) (A := A) (c := c) wf_g (ok.keep hw) hbl⟩, ⟨ent Try.func38 rfl rfl, fun w' hw => ret_eq (congrArg Value.bool k4) ((fun w' hw => c_rbefore wf_r.fin (Last_bd _ wf_g)) w' hw)⟩, trivial, congrArg Value.bool k2, ⟨ent Try.func23 rfl rfl, fun w' hw => c_rgap wf_g.ack wf_r.fin⟩, congrArg Value.bool k5, trivial⟩)
set_option maxRecDepth 100000 in
theorem c_rwhy_33 {w : World} (s : Sd) (r : Sd) (g : Sg)  {A : Option Addr} {c : Nat} (ok : g.Ok A c w) (hd : g.data.size ≤ 1000000) (hbl : g.blocks.length ≤ 1000000) (wf_s : s.Wf) (wf_r : r.Wf) (wf_g : g.Wf) (h0 : (s.on) = false) (h1 : (r.on) = true) (h2 : ((Go.bits .and .i64 g.flags 16) != 0) = true) (h3 : (decide (0 < G r.fin g.ack)) = false) (h4 : (decide (0 < G r.fin (Last g))) = true) (h5 : (decide ((G g.ack r.fin) > (IntKind.i64.wrap (s.win + 1)))) = false) : Calls Try.prog 15 #[s.V, r.V, g.V A c] w fun e w' => e = .returned (.int .i64 3) ∧ Below w.heap.size w w' :=
  calls_of_check rfl Try.func15 1000000 [s.V, r.V, g.V A c] [(.callp 19 [.av (.one (.v s.V)), .av (.one (.v r.V)), .av (.one (.v (g.V A c)))] (c_rwhy_hp0 s r g A c) (c_rwhy_up14 s r g A c) (.av (.one (.u 68 1))))] (by kernel_rfl) (by kernel_rfl)
    (by exact ⟨⟨ent Try.func19 rfl rfl, c_rwhy_s33 s r g ok hd hbl wf_s wf_r wf_g h2 h0 h1 h3 h4 h5⟩, trivial⟩)
set_option maxRecDepth 100000 in
theorem c_rwhy_s34 {w : World} (s : Sd) (r : Sd) (g : Sg)  {A : Option Addr} {c : Nat} (ok : g.Ok A c w) (hd : g.data.size ≤ 1000000) (hbl : g.blocks.length ≤ 1000000) (wf_s : s.Wf) (wf_r : r.Wf) (wf_g : g.Wf) (k0 : ((Go.bits .and .i64 g.flags 16) != 0) = true) (k1 : (s.on) = false) (k2 : (r.on) = true) (k3 : (decide (0 < G r.fin g.ack)) = false) (k4 : (decide (0 < G r.fin (Last g))) = false) (k5 : (decide ((G g.ack r.fin) > (IntKind.i64.wrap (s.win + 1)))) = true) : PCalls Try.prog 19 [.av (.one (.v s.V)), .av (.one (.v r.V)), .av (.one (.v (g.V A c)))] (c_rwhy_hp0 s r g A c) (upsB (c_rwhy_hp0 s r g A c) (c_rwhy_up15 s r g A c)) (.av (.one (.u 87 1))) (w, []) :=
  pcalls_of_check rfl Try.func19 1000000 [.av (.one (.v s.V)), .av (.one (.v r.V)), .av (.one (.v (g.V A c)))] (c_rwhy_hp0 s r g A c) [(.cast 13 (.bool ((Go.bits .and .i64 g.flags 16) != 0)) (.bool true)),
    (.call 24 [g.V A c] (.int .u32 (EndS g))),
    (.cast 17 (.bool s.on) (.bool false)),
    (.sched c_rwhy_T0 c_rwhy_B0 [(92, 0)] [] (.s 0 0 (.s 1 1 (.s 0 2 (.s 0 3 (.s 0 4 (.s 0 5 (.s 0 6 (.s 0 7 (.s 0 8 (.s 0 9 (.s 0 10 (.s 0 11 .e))))))))))))),
    (.cast 33 (.bool s.on) (.bool false)),
    (.sched c_rwhy_T1 c_rwhy_B1 [(93, 0), (93, 1), (94, 0), (94, 1), (94, 2), (94, 3), (94, 4), (94, 5), (94, 6), (94, 7), (94, 8), (94, 9), (94, 10), (94, 11), (94, 12), (94, 13), (94, 14)] [] (.s 0 0 (.s 1 1 (.s 0 2 (.s 0 3 (.s 0 4 (.s 0 5 (.s 0 6 (.s 0 8 (.s 1 7 (.s 1 9 (.s 2 10 (.s 0 11 (.s 0 12 (.s 1 13 (.s 1 14 (.s 2 15 (.s 2 16 (.s 0 17 (.s 0 18 .e)))))))))))))))))))),
    (.cast 48 (.bool r.on) (.bool true)),
    (.call 38 [.int .u32 r.fin, .int .u32 g.ack] (.bool false)),
    (.call 42 [g.V A c] (.int .u32 (Last g))),
    (.call 38 [.int .u32 r.fin, .int .u32 (Last g)] (.bool false)),
    (.sched c_rwhy_T2 c_rwhy_B2 [(92, 5), (93, 0), (93, 1), (94, 3)] [] (.s 0 0 (.s 1 1 (.s 0 2 (.s 0 3 (.s 0 4 (.s 0 5 (.s 0 6 (.s 0 8 (.s 0 11 (.s 1 7 (.s 1 9 (.s 1 12 (.s 0 13 (.s 2 10 (.s 0 14 (.s 0 15 .e))))))))))))))))),
    (.cast 70 (.bool r.on) (.bool true)),
    (.call 23 [.int .u32 g.ack, .int .u32 r.fin] (.int .i64 (G g.ack r.fin))),
    (.cast 83 (.bool (decide ((G g.ack r.fin) > (IntKind.i64.wrap (s.win + 1))))) (.bool true))] (c_rwhy_up15 s r g A c) (by kernel_rfl) (by kernel_rfl)
    (by exact ⟨congrArg Value.bool k0, ⟨ent Try.func24 rfl rfl, fun w' hw => c_rend (s := g) (A := A) (c := c) wf_g (ok.keep hw) hd⟩, congrArg Value.bool k1, trivial, congrArg Value.bool k1, trivial, congrArg Value.bool k2, ⟨ent Try.func38 rfl rfl, fun w' hw => ret_eq (congrArg Value.bool k3) ((fun w' hw => c_rbefore wf_r.fin wf_g.ack) w' hw)⟩, ⟨ent Try.func42 rfl rfl, fun w' hw => c_rlast (s := g) (A := A) (c := c) wf_g (ok.keep hw) hbl⟩, ⟨ent Try.func38 rfl rfl, fun w' hw => ret_eq (congrArg Value.bool k4) ((fun w' hw => c_rbefore wf_r.fin (Last_bd _ wf_g)) w' hw)⟩, trivial, congrArg Value.bool k2, ⟨ent Try.func23 rfl rfl, fun w' hw => c_rgap wf_g.ack wf_r.fin⟩, congrArg Value.bool k5, trivial⟩)
set_option maxRecDepth 100000 in
theorem c_rwhy_34 {w : World} (s : Sd) (r : Sd) (g : Sg)  {A : Option Addr} {c : Nat} (ok : g.Ok A c w) (hd : g.data.size ≤ 1000000) (hbl : g.blocks.length ≤ 1000000) (wf_s : s.Wf) (wf_r : r.Wf) (wf_g : g.Wf) (h0 : (s.on) = false) (h1 : (r.on) = true) (h2 : ((Go.bits .and .i64 g.flags 16) != 0) = true) (h3 : (decide (0 < G r.fin g.ack)) = false) (h4 : (decide (0 < G r.fin (Last g))) = false) (h5 : (decide ((G g.ack r.fin) > (IntKind.i64.wrap (s.win + 1)))) = true) : Calls Try.prog 15 #[s.V, r.V, g.V A c] w fun e w' => e = .returned (.int .i64 4) ∧ Below w.heap.size w w' :=
  calls_of_check rfl Try.func15 1000000 [s.V, r.V, g.V A c] [(.callp 19 [.av (.one (.v s.V)), .av (.one (.v r.V)), .av (.one (.v (g.V A c)))] (c_rwhy_hp0 s r g A c) (c_rwhy_up15 s r g A c) (.av (.one (.u 87 1))))] (by kernel_rfl) (by kernel_rfl)
    (by exact ⟨⟨ent Try.func19 rfl rfl, c_rwhy_s34 s r g ok hd hbl wf_s wf_r wf_g h2 h0 h1 h3 h4 h5⟩, trivial⟩)
set_option maxRecDepth 100000 in
theorem c_rwhy_s35 {w : World} (s : Sd) (r : Sd) (g : Sg)  {A : Option Addr} {c : Nat} (ok : g.Ok A c w) (hd : g.data.size ≤ 1000000) (hbl : g.blocks.length ≤ 1000000) (wf_s : s.Wf) (wf_r : r.Wf) (wf_g : g.Wf) (k0 : ((Go.bits .and .i64 g.flags 16) != 0) = true) (k1 : (s.on) = false) (k2 : (r.on) = true) (k3 : (decide (0 < G r.fin g.ack)) = false) (k4 : (decide (0 < G r.fin (Last g))) = false) (k5 : (decide ((G g.ack r.fin) > (IntKind.i64.wrap (s.win + 1)))) = false) : PCalls Try.prog 19 [.av (.one (.v s.V)), .av (.one (.v r.V)), .av (.one (.v (g.V A c)))] (c_rwhy_hp0 s r g A c) (upsB (c_rwhy_hp0 s r g A c) (c_rwhy_up16 s r g A c)) (.av (.one (.v (.slice none 0 0)))) (w, []) :=
  pcalls_of_check rfl Try.func19 1000000 [.av (.one (.v s.V)), .av (.one (.v r.V)), .av (.one (.v (g.V A c)))] (c_rwhy_hp0 s r g A c) [(.cast 13 (.bool ((Go.bits .and .i64 g.flags 16) != 0)) (.bool true)),
    (.call 24 [g.V A c] (.int .u32 (EndS g))),
    (.cast 17 (.bool s.on) (.bool false)),
    (.sched c_rwhy_T0 c_rwhy_B0 [(92, 0)] [] (.s 0 0 (.s 1 1 (.s 0 2 (.s 0 3 (.s 0 4 (.s 0 5 (.s 0 6 (.s 0 7 (.s 0 8 (.s 0 9 (.s 0 10 (.s 0 11 .e))))))))))))),
    (.cast 33 (.bool s.on) (.bool false)),
    (.sched c_rwhy_T1 c_rwhy_B1 [(93, 0), (93, 1), (94, 0), (94, 1), (94, 2), (94, 3), (94, 4), (94, 5), (94, 6), (94, 7), (94, 8), (94, 9), (94, 10), (94, 11), (94, 12), (94, 13), (94, 14)] [] (.s 0 0 (.s 1 1 (.s 0 2 (.s 0 3 (.s 0 4 (.s 0 5 (.s 0 6 (.s 0 8 (.s 1 7 (.s 1 9 (.s 2 10 (.s 0 11 (.s 0 12 (.s 1 13 (.s 1 14 (.s 2 15 (.s 2 16 (.s 0 17 (.s 0 18 .e)))))))))))))))))))),
    (.cast 48 (.bool r.on) (.bool true)),
    (.call 38 [.int .u32 r.fin, .int .u32 g.ack] (.bool false)),
    (.call 42 [g.V A c] (.int .u32 (Last g))),
    (.call 38 [.int .u32 r.fin, .int .u32 (Last g)] (.bool false)),
    (.sched c_rwhy_T2 c_rwhy_B2 [(92, 5), (93, 0), (93, 1), (94, 3)] [] (.s 0 0 (.s 1 1 (.s 0 2 (.s 0 3 (.s 0 4 (.s 0 5 (.s 0 6 (.s 0 8 (.s 0 11 (.s 1 7 (.s 1 9 (.s 1 12 (.s 0 13 (.s 2 10 (.s 0 14 (.s 0 15 .e))))))))))))))))),
    (.cast 70 (.bool r.on) (.bool true)),
    (.call 23 [.int .u32 g.ack, .int .u32 r.fin] (.int .i64 (G g.ack r.fin))),
    (.cast 83 (.bool (decide ((G g.ack r.fin) > (IntKind.i64.wrap (s.win + 1))))) (.bool false))] (c_rwhy_up16 s r g A c) (by kernel_rfl) (by kernel_rfl)
    (by exact ⟨congrArg Value.bool k0, ⟨ent Try.func24 rfl rfl, fun w' hw => c_rend (s := g) (A := A) (c := c) wf_g (ok.keep hw) hd⟩, congrArg Value.bool k1, trivial, congrArg Value.bool k1, trivial, congrArg Value.bool k2, ⟨ent Try.func38 rfl rfl, fun w' hw => ret_eq (congrArg Value.bool k3) ((fun w' hw => c_rbefore wf_r.fin wf_g.ack) w' hw)⟩, ⟨ent Try.func42 rfl rfl, fun w' hw => c_rlast (s := g) (A := A) (c := c) wf_g (ok.keep hw) hbl⟩, ⟨ent Try.func38 rfl rfl, fun w' hw => ret_eq (congrArg Value.bool k4) ((fun w' hw => c_rbefore wf_r.fin (Last_bd _ wf_g)) w' hw)⟩, trivial, congrArg Value.bool k2, ⟨ent Try.func23 rfl rfl, fun w' hw => c_rgap wf_g.ack wf_r.fin⟩, congrArg Value.bool k5, trivial⟩)
set_option maxRecDepth 100000 in
theorem c_rwhy_35 {w : World} (s : Sd) (r : Sd) (g : Sg)  {A : Option Addr} {c : Nat} (ok : g.Ok A c w) (hd : g.data.size ≤ 1000000) (hbl : g.blocks.length ≤ 1000000) (wf_s : s.Wf) (wf_r : r.Wf) (wf_g : g.Wf) (h0 : (s.on) = false) (h1 : (r.on) = true) (h2 : ((Go.bits .and .i64 g.flags 16) != 0) = true) (h3 : (decide (0 < G r.fin g.ack)) = false) (h4 : (decide (0 < G r.fin (Last g))) = false) (h5 : (decide ((G g.ack r.fin) > (IntKind.i64.wrap (s.win + 1)))) = false) : Calls Try.prog 15 #[s.V, r.V, g.V A c] w fun e w' => e = .returned (.int .i64 0) ∧ Below w.heap.size w w' :=
  calls_of_check rfl Try.func15 1000000 [s.V, r.V, g.V A c] [(.callp 19 [.av (.one (.v s.V)), .av (.one (.v r.V)), .av (.one (.v (g.V A c)))] (c_rwhy_hp0 s r g A c) (c_rwhy_up16 s r g A c) (.av (.one (.v (.slice none 0 0)))))] (by kernel_rfl) (by kernel_rfl)
    (by exact ⟨⟨ent Try.func19 rfl rfl, c_rwhy_s35 s r g ok hd hbl wf_s wf_r wf_g h2 h0 h1 h3 h4 h5⟩, trivial⟩)
set_option maxRecDepth 100000 in
theorem c_rwhy_s36 {w : World} (s : Sd) (r : Sd) (g : Sg)  {A : Option Addr} {c : Nat} (ok : g.Ok A c w) (hd : g.data.size ≤ 1000000) (hbl : g.blocks.length ≤ 1000000) (wf_s : s.Wf) (wf_r : r.Wf) (wf_g : g.Wf) (k0 : ((Go.bits .and .i64 g.flags 16) != 0) = false) (k1 : (s.on) = false) (k2 : (r.on) = true) : PCalls Try.prog 19 [.av (.one (.v s.V)), .av (.one (.v r.V)), .av (.one (.v (g.V A c)))] (c_rwhy_hp0 s r g A c) (upsB (c_rwhy_hp0 s r g A c) (c_rwhy_up16 s r g A c)) (.av (.one (.v (.slice none 0 0)))) (w, []) :=
  pcalls_of_check rfl Try.func19 1000000 [.av (.one (.v s.V)), .av (.one (.v r.V)), .av (.one (.v (g.V A c)))] (c_rwhy_hp0 s r g A c) [(.cast 13 (.bool ((Go.bits .and .i64 g.flags 16) != 0)) (.bool false)),
    (.call 24 [g.V A c] (.int .u32 (EndS g))),
    (.cast 17 (.bool s.on) (.bool false)),
    (.sched c_rwhy_T0 c_rwhy_B0 [(92, 0)] [] (.s 0 0 (.s 1 1 (.s 0 2 (.s 0 3 (.s 0 4 (.s 0 5 (.s 0 6 (.s 0 7 (.s 0 8 (.s 0 9 (.s 0 10 (.s 0 11 .e))))))))))))),
    (.cast 33 (.bool s.on) (.bool false)),
    (.sched c_rwhy_T1 c_rwhy_B1 [(93, 0)] [] (.s 0 0 (.s 1 1 (.s 0 2 (.s 0 3 (.s 0 4 (.s 0 5 (.s 0 6 (.s 0 7 (.s 0 8 (.s 0 9 (.s 0 10 (.s 0 11 (.s 0 12 (.s 0 13 (.s 0 14 (.s 0 15 (.s 0 16 (.s 0 17 (.s 0 18 .e)))))))))))))))))))),
    (.cast 48 (.bool r.on) (.bool true)),
    (.sched c_rwhy_T2 c_rwhy_B2 [(93, 0)] [] (.s 0 0 (.s 1 1 (.s 0 2 (.s 0 3 (.s 0 4 (.s 0 5 (.s 0 6 (.s 0 7 (.s 0 8 (.s 0 9 (.s 0 10 (.s 0 11 (.s 0 12 (.s 0 13 (.s 0 14 (.s 0 15 .e))))))))))))))))),
    (.cast 70 (.bool r.on) (.bool true))] (c_rwhy_up16 s r g A c) (by kernel_rfl) (by kernel_rfl)
    (by exact ⟨congrArg Value.bool k0, ⟨ent Try.func24 rfl rfl, fun w' hw => c_rend (s := g) (A := A) (c := c) wf_g (ok.keep hw) hd⟩, congrArg Value.bool k1, trivial, congrArg Value.bool k1, trivial, congrArg Value.bool k2, trivial, congrArg Value.bool k2, trivial⟩)
set_option maxRecDepth 100000 in
theorem c_rwhy_36 {w : World} (s : Sd) (r : Sd) (g : Sg)  {A : Option Addr} {c : Nat} (ok : g.Ok A c w) (hd : g.data.size ≤ 1000000) (hbl : g.blocks.length ≤ 1000000) (wf_s : s.Wf) (wf_r : r.Wf) (wf_g : g.Wf) (h0 : (s.on) = false) (h1 : (r.on) = true) (h2 : ((Go.bits .and .i64 g.flags 16) != 0) = false) : Calls Try.prog 15 #[s.V, r.V, g.V A c] w fun e w' => e = .returned (.int .i64 0) ∧ Below w.heap.size w w' :=
  calls_of_check rfl Try.func15 1000000 [s.V, r.V, g.V A c] [(.callp 19 [.av (.one (.v s.V)), .av (.one (.v r.V)), .av (.one (.v (g.V A c)))] (c_rwhy_hp0 s r g A c) (c_rwhy_up16 s r g A c) (.av (.one (.v (.slice none 0 0)))))] (by kernel_rfl) (by kernel_rfl)
    (by exact ⟨⟨ent Try.func19 rfl rfl, c_rwhy_s36 s r g ok hd hbl wf_s wf_r wf_g h2 h0 h1⟩, trivial⟩)
set_option maxRecDepth 100000 in
theorem c_rwhy_s37 {w : World} (s : Sd) (r : Sd) (g : Sg)  {A : Option Addr} {c : Nat} (ok : g.Ok A c w) (hd : g.data.size ≤ 1000000) (hbl : g.blocks.length ≤ 1000000) (wf_s : s.Wf) (wf_r : r.Wf) (wf_g : g.Wf) (k0 : (s.on) = false) (k1 : (r.on) = false) : PCalls Try.prog 19 [.av (.one (.v s.V)), .av (.one (.v r.V)), .av (.one (.v (g.V A c)))] (c_rwhy_hp0 s r g A c) (upsB (c_rwhy_hp0 s r g A c) (c_rwhy_up16 s r g A c)) (.av (.one (.v (.slice none 0 0)))) (w, []) :=
  pcalls_of_check rfl Try.func19 1000000 [.av (.one (.v s.V)), .av (.one (.v r.V)), .av (.one (.v (g.V A c)))] (c_rwhy_hp0 s r g A c) [(.call 24 [g.V A c] (.int .u32 (EndS g))),
    (.cast 17 (.bool s.on) (.bool false)),
    (.sched c_rwhy_T0 c_rwhy_B0 [(92, 0)] [] (.s 0 0 (.s 1 1 (.s 0 2 (.s 0 3 (.s 0 4 (.s 0 5 (.s 0 6 (.s 0 7 (.s 0 8 (.s 0 9 (.s 0 10 (.s 0 11 .e))))))))))))),
    (.cast 33 (.bool s.on) (.bool false)),
    (.sched c_rwhy_T1 c_rwhy_B1 [(93, 0)] [] (.s 0 0 (.s 1 1 (.s 0 2 (.s 0 3 (.s 0 4 (.s 0 5 (.s 0 6 (.s 0 7 (.s 0 8 (.s 0 9 (.s 0 10 (.s 0 11 (.s 0 12 (.s 0 13 (.s 0 14 (.s 0 15 (.s 0 16 (.s 0 17 (.s 0 18 .e)))))))))))))))))))),
    (.cast 48 (.bool r.on) (.bool false)),
    (.sched c_rwhy_T2 c_rwhy_B2 [(93, 0)] [] (.s 0 0 (.s 1 1 (.s 0 2 (.s 0 3 (.s 0 4 (.s 0 5 (.s 0 6 (.s 0 7 (.s 0 8 (.s 0 9 (.s 0 10 (.s 0 11 (.s 0 12 (.s 0 13 (.s 0 14 (.s 0 15 .e))))))))))))))))),
    (.cast 70 (.bool r.on) (.bool false))] (c_rwhy_up16 s r g A c) (by kernel_rfl) (by kernel_rfl)
    (by exact ⟨⟨ent Try.func24 rfl rfl, fun w' hw => c_rend (s := g) (A := A) (c := c) wf_g (ok.keep hw) hd⟩, congrArg Value.bool k0, trivial, congrArg Value.bool k0, trivial, congrArg Value.bool k1, trivial, congrArg Value.bool k1, trivial⟩)
set_option maxRecDepth 100000 in
theorem c_rwhy_37 {w : World} (s : Sd) (r : Sd) (g : Sg)  {A : Option Addr} {c : Nat} (ok : g.Ok A c w) (hd : g.data.size ≤ 1000000) (hbl : g.blocks.length ≤ 1000000) (wf_s : s.Wf) (wf_r : r.Wf) (wf_g : g.Wf) (h0 : (s.on) = false) (h1 : (r.on) = false) : Calls Try.prog 15 #[s.V, r.V, g.V A c] w fun e w' => e = .returned (.int .i64 0) ∧ Below w.heap.size w w' :=
  calls_of_check rfl Try.func15 1000000 [s.V, r.V, g.V A c] [(.callp 19 [.av (.one (.v s.V)), .av (.one (.v r.V)), .av (.one (.v (g.V A c)))] (c_rwhy_hp0 s r g A c) (c_rwhy_up16 s r g A c) (.av (.one (.v (.slice none 0 0)))))] (by kernel_rfl) (by kernel_rfl)
    (by exact ⟨⟨ent Try.func19 rfl rfl, c_rwhy_s37 s r g ok hd hbl wf_s wf_r wf_g h0 h1⟩, trivial⟩)
def rwhyF (s : Sd) (r : Sd) (g : Sg)  : Int := (bif s.on then (bif r.on then (bif decide ((G s.max (EndS g)) > 1) then (bif decide ((G (EndS g) s.fin) > (IntKind.i64.wrap (r.win + 1))) then (bif (Go.bits .and .i64 g.flags 16) != 0 then (bif decide (0 < G r.fin g.ack) then (bif decide ((G g.ack r.fin) > (IntKind.i64.wrap (s.win + 1))) then 1 else 1) else (bif decide (0 < G r.fin (Last g)) then (bif decide ((G g.ack r.fin) > (IntKind.i64.wrap (s.win + 1))) then 1 else 1) else (bif decide ((G g.ack r.fin) > (IntKind.i64.wrap (s.win + 1))) then 1 else 1))) else 1) else (bif (Go.bits .and .i64 g.flags 16) != 0 then (bif decide (0 < G r.fin g.ack) then (bif decide ((G g.ack r.fin) > (IntKind.i64.wrap (s.win + 1))) then 1 else 1) else (bif decide (0 < G r.fin (Last g)) then (bif decide ((G g.ack r.fin) > (IntKind.i64.wrap (s.win + 1))) then 1 else 1) else (bif decide ((G g.ack r.fin) > (IntKind.i64.wrap (s.win + 1))) then 1 else 1))) else 1)) else (bif decide ((G (EndS g) s.fin) > (IntKind.i64.wrap (r.win + 1))) then (bif (Go.bits .and .i64 g.flags 16) != 0 then (bif decide (0 < G r.fin g.ack) then (bif decide ((G g.ack r.fin) > (IntKind.i64.wrap (s.win + 1))) then 2 else 2) else (bif decide (0 < G r.fin (Last g)) then (bif decide ((G g.ack r.fin) > (IntKind.i64.wrap (s.win + 1))) then 2 else 2) else (bif decide ((G g.ack r.fin) > (IntKind.i64.wrap (s.win + 1))) then 2 else 2))) else 2) else (bif (Go.bits .and .i64 g.flags 16) != 0 then (bif decide (0 < G r.fin g.ack) then (bif decide ((G g.ack r.fin) > (IntKind.i64.wrap (s.win + 1))) then 3 else 3) else (bif decide (0 < G r.fin (Last g)) then (bif decide ((G g.ack r.fin) > (IntKind.i64.wrap (s.win + 1))) then 3 else 3) else (bif decide ((G g.ack r.fin) > (IntKind.i64.wrap (s.win + 1))) then 4 else 0))) else 0))) else (bif decide ((G (EndS g) s.fin) > (IntKind.i64.wrap (r.win + 1))) then 2 else 0)) else (bif r.on then (bif (Go.bits .and .i64 g.flags 16) != 0 then (bif decide (0 < G r.fin g.ack) then (bif decide ((G g.ack r.fin) > (IntKind.i64.wrap (s.win + 1))) then 3 else 3) else (bif decide (0 < G r.fin (Last g)) then (bif decide ((G g.ack r.fin) > (IntKind.i64.wrap (s.win + 1))) then 3 else 3) else (bif decide ((G g.ack r.fin) > (IntKind.i64.wrap (s.win + 1))) then 4 else 0))) else 0) else 0))
theorem c_rwhy {w : World} (s : Sd) (r : Sd) (g : Sg)  {A : Option Addr} {c : Nat} (ok : g.Ok A c w) (hd : g.data.size ≤ 1000000) (hbl : g.blocks.length ≤ 1000000) (wf_s : s.Wf) (wf_r : r.Wf) (wf_g : g.Wf) : Calls Try.prog 15 #[s.V, r.V, g.V A c] w fun e w' => e = .returned (.int .i64 (rwhyF s r g)) ∧ Below w.heap.size w w' := by
  cases h0 : (s.on) with
  | true =>
    cases h1 : (r.on) with
    | true =>
      cases h2 : (decide ((G s.max (EndS g)) > 1)) with
      | true =>
        cases h3 : (decide ((G (EndS g) s.fin) > (IntKind.i64.wrap (r.win + 1)))) with
        | true =>
          cases h4 : ((Go.bits .and .i64 g.flags 16) != 0) with
          | true =>
            cases h5 : (decide (0 < G r.fin g.ack)) with
            | true =>
              cases h6 : (decide ((G g.ack r.fin) > (IntKind.i64.wrap (s.win + 1)))) with
              | true =>
                have e : rwhyF s r g = 1 := by unfold rwhyF; rw [h0, cond_true, h1, cond_true, h2, cond_true, h3, cond_true, h4, cond_true, h5, cond_true, h6, cond_true]
                rw [e]
                exact c_rwhy_0 s r g ok hd hbl wf_s wf_r wf_g h0 h1 h2 h3 h4 h5 h6
              | false =>
                have e : rwhyF s r g = 1 := by unfold rwhyF; rw [h0, cond_true, h1, cond_true, h2, cond_true, h3, cond_true, h4, cond_true, h5, cond_true, h6, cond_false]
                rw [e]
                exact c_rwhy_1 s r g ok hd hbl wf_s wf_r wf_g h0 h1 h2 h3 h4 h5 h6
            | false =>
              cases h6 : (decide (0 < G r.fin (Last g))) with
              | true =>
                cases h7 : (decide ((G g.ack r.fin) > (IntKind.i64.wrap (s.win + 1)))) with
                | true =>
                  have e : rwhyF s r g = 1 := by unfold rwhyF; rw [h0, cond_true, h1, cond_true, h2, cond_true, h3, cond_true, h4, cond_true, h5, cond_false, h6, cond_true, h7, cond_true]
                  rw [e]
                  exact c_rwhy_2 s r g ok hd hbl wf_s wf_r wf_g h0 h1 h2 h3 h4 h5 h6 h7
                | false =>
                  have e : rwhyF s r g = 1 := by unfold rwhyF; rw [h0, cond_true, h1, cond_true, h2, cond_true, h3, cond_true, h4, cond_true, h5, cond_false, h6, cond_true, h7, cond_false]
                  rw [e]
                  exact c_rwhy_3 s r g ok hd hbl wf_s wf_r wf_g h0 h1 h2 h3 h4 h5 h6 h7
              | false =>
                cases h7 : (decide ((G g.ack r.fin) > (IntKind.i64.wrap (s.win + 1)))) with
                | true =>
                  have e : rwhyF s r g = 1 := by unfold rwhyF; rw [h0, cond_true, h1, cond_true, h2, cond_true, h3, cond_true, h4, cond_true, h5, cond_false, h6, cond_false, h7, cond_true]
                  rw [e]
                  exact c_rwhy_4 s r g ok hd hbl wf_s wf_r wf_g h0 h1 h2 h3 h4 h5 h6 h7
                | false =>
                  have e : rwhyF s r g = 1 := by unfold rwhyF; rw [h0, cond_true, h1, cond_true, h2, cond_true, h3, cond_true, h4, cond_true, h5, cond_false, h6, cond_false, h7, cond_false]
                  rw [e]
                  exact c_rwhy_5 s r g ok hd hbl wf_s wf_r wf_g h0 h1 h2 h3 h4 h5 h6 h7
          | false =>
            have e : rwhyF s r g = 1 := by unfold rwhyF; rw [h0, cond_true, h1, cond_true, h2, cond_true, h3, cond_true, h4, cond_false]
            rw [e]
            exact c_rwhy_6 s r g ok hd hbl wf_s wf_r wf_g h0 h1 h2 h3 h4
        | false =>
          cases h4 : ((Go.bits .and .i64 g.flags 16) != 0) with
          | true =>
            cases h5 : (decide (0 < G r.fin g.ack)) with
            | true =>
              cases h6 : (decide ((G g.ack r.fin) > (IntKind.i64.wrap (s.win + 1)))) with
              | true =>
                have e : rwhyF s r g = 1 := by unfold rwhyF; rw [h0, cond_true, h1, cond_true, h2, cond_true, h3, cond_false, h4, cond_true, h5, cond_true, h6, cond_true]
                rw [e]
                exact c_rwhy_7 s r g ok hd hbl wf_s wf_r wf_g h0 h1 h2 h3 h4 h5 h6
              | false =>
                have e : rwhyF s r g = 1 := by unfold rwhyF; rw [h0, cond_true, h1, cond_true, h2, cond_true, h3, cond_false, h4, cond_true, h5, cond_true, h6, cond_false]
                rw [e]
                exact c_rwhy_8 s r g ok hd hbl wf_s wf_r wf_g h0 h1 h2 h3 h4 h5 h6
            | false =>
              cases h6 : (decide (0 < G r.fin (Last g))) with
              | true =>
                cases h7 : (decide ((G g.ack r.fin) > (IntKind.i64.wrap (s.win + 1)))) with
                | true =>
                  have e : rwhyF s r g = 1 := by unfold rwhyF; rw [h0, cond_true, h1, cond_true, h2, cond_true, h3, cond_false, h4, cond_true, h5, cond_false, h6, cond_true, h7, cond_true]
                  rw [e]
                  exact c_rwhy_9 s r g ok hd hbl wf_s wf_r wf_g h0 h1 h2 h3 h4 h5 h6 h7
                | false =>
                  have e : rwhyF s r g = 1 := by unfold rwhyF; rw [h0, cond_true, h1, cond_true, h2, cond_true, h3, cond_false, h4, cond_true, h5, cond_false, h6, cond_true, h7, cond_false]
                  rw [e]
                  exact c_rwhy_10 s r g ok hd hbl wf_s wf_r wf_g h0 h1 h2 h3 h4 h5 h6 h7
              | false =>
                cases h7 : (decide ((G g.ack r.fin) > (IntKind.i64.wrap (s.win + 1)))) with
                | true =>
                  have e : rwhyF s r g = 1 := by unfold rwhyF; rw [h0, cond_true, h1, cond_true, h2, cond_true, h3, cond_false, h4, cond_true, h5, cond_false, h6, cond_false, h7, cond_true]
                  rw [e]
                  exact c_rwhy_11 s r g ok hd hbl wf_s wf_r wf_g h0 h1 h2 h3 h4 h5 h6 h7
                | false =>
                  have e : rwhyF s r g = 1 := by unfold rwhyF; rw [h0, cond_true, h1, cond_true, h2, cond_true, h3, cond_false, h4, cond_true, h5, cond_false, h6, cond_false, h7, cond_false]
                  rw [e]
                  exact c_rwhy_12 s r g ok hd hbl wf_s wf_r wf_g h0 h1 h2 h3 h4 h5 h6 h7
          | false =>
            have e : rwhyF s r g = 1 := by unfold rwhyF; rw [h0, cond_true, h1, cond_true, h2, cond_true, h3, cond_false, h4, cond_false]
            rw [e]
            exact c_rwhy_13 s r g ok hd hbl wf_s wf_r wf_g h0 h1 h2 h3 h4
      | false =>
        cases h3 : (decide ((G (EndS g) s.fin) > (IntKind.i64.wrap (r.win + 1)))) with
        | true =>
          cases h4 : ((Go.bits .and .i64 g.flags 16) != 0) with
          | true =>
            cases h5 : (decide (0 < G r.fin g.ack)) with
            | true =>
              cases h6 : (decide ((G g.ack r.fin) > (IntKind.i64.wrap (s.win + 1)))) with
              | true =>
                have e : rwhyF s r g = 2 := by unfold rwhyF; rw [h0, cond_true, h1, cond_true, h2, cond_false, h3, cond_true, h4, cond_true, h5, cond_true, h6, cond_true]
                rw [e]
                exact c_rwhy_14 s r g ok hd hbl wf_s wf_r wf_g h0 h1 h2 h3 h4 h5 h6
              | false =>
                have e : rwhyF s r g = 2 := by unfold rwhyF; rw [h0, cond_true, h1, cond_true, h2, cond_false, h3, cond_true, h4, cond_true, h5, cond_true, h6, cond_false]
                rw [e]
                exact c_rwhy_15 s r g ok hd hbl wf_s wf_r wf_g h0 h1 h2 h3 h4 h5 h6
            | false =>
              cases h6 : (decide (0 < G r.fin (Last g))) with
              | true =>
                cases h7 : (decide ((G g.ack r.fin) > (IntKind.i64.wrap (s.win + 1)))) with
                | true =>
                  have e : rwhyF s r g = 2 := by unfold rwhyF; rw [h0, cond_true, h1, cond_true, h2, cond_false, h3, cond_true, h4, cond_true, h5, cond_false, h6, cond_true, h7, cond_true]
                  rw [e]
                  exact c_rwhy_16 s r g ok hd hbl wf_s wf_r wf_g h0 h1 h2 h3 h4 h5 h6 h7
                | false =>
                  have e : rwhyF s r g = 2 := by unfold rwhyF; rw [h0, cond_true, h1, cond_true, h2, cond_false, h3, cond_true, h4, cond_true, h5, cond_false, h6, cond_true, h7, cond_false]
                  rw [e]
                  exact c_rwhy_17 s r g ok hd hbl wf_s wf_r wf_g h0 h1 h2 h3 h4 h5 h6 h7
              | false =>
                cases h7 : (decide ((G g.ack r.fin) > (IntKind.i64.wrap (s.win + 1)))) with
                | true =>
                  have e : rwhyF s r g = 2 := by unfold rwhyF; rw [h0, cond_true, h1, cond_true, h2, cond_false, h3, cond_true, h4, cond_true, h5, cond_false, h6, cond_false, h7, cond_true]
                  rw [e]
                  exact c_rwhy_18 s r g ok hd hbl wf_s wf_r wf_g h0 h1 h2 h3 h4 h5 h6 h7
                | false =>
                  have e : rwhyF s r g = 2 := by unfold rwhyF; rw [h0, cond_true, h1, cond_true, h2, cond_false, h3, cond_true, h4, cond_true, h5, cond_false, h6, cond_false, h7, cond_false]
                  rw [e]
                  exact c_rwhy_19 s r g ok hd hbl wf_s wf_r wf_g h0 h1 h2 h3 h4 h5 h6 h7
          | false =>
            have e : rwhyF s r g = 2 := by unfold rwhyF; rw [h0, cond_true, h1, cond_true, h2, cond_false, h3, cond_true, h4, cond_false]
            rw [e]
            exact c_rwhy_20 s r g ok hd hbl wf_s wf_r wf_g h0 h1 h2 h3 h4
        | false =>
          cases h4 : ((Go.bits .and .i64 g.flags 16) != 0) with
          | true =>
            cases h5 : (decide (0 < G r.fin g.ack)) with
            | true =>
              cases h6 : (decide ((G g.ack r.fin) > (IntKind.i64.wrap (s.win + 1)))) with
              | true =>
                have e : rwhyF s r g = 3 := by unfold rwhyF; rw [h0, cond_true, h1, cond_true, h2, cond_false, h3, cond_false, h4, cond_true, h5, cond_true, h6, cond_true]
                rw [e]
                exact c_rwhy_21 s r g ok hd hbl wf_s wf_r wf_g h0 h1 h2 h3 h4 h5 h6
              | false =>
                have e : rwhyF s r g = 3 := by unfold rwhyF; rw [h0, cond_true, h1, cond_true, h2, cond_false, h3, cond_false, h4, cond_true, h5, cond_true, h6, cond_false]
                rw [e]
                exact c_rwhy_22 s r g ok hd hbl wf_s wf_r wf_g h0 h1 h2 h3 h4 h5 h6
            | false =>
              cases h6 : (decide (0 < G r.fin (Last g))) with
              | true =>
                cases h7 : (decide ((G g.ack r.fin) > (IntKind.i64.wrap (s.win + 1)))) with
                | true =>
                  have e : rwhyF s r g = 3 := by unfold rwhyF; rw [h0, cond_true, h1, cond_true, h2, cond_false, h3, cond_false, h4, cond_true, h5, cond_false, h6, cond_true, h7, cond_true]
                  rw [e]
                  exact c_rwhy_23 s r g ok hd hbl wf_s wf_r wf_g h0 h1 h2 h3 h4 h5 h6 h7
                | false =>
                  have e : rwhyF s r g = 3 := by unfold rwhyF; rw [h0, cond_true, h1, cond_true, h2, cond_false, h3, cond_false, h4, cond_true, h5, cond_false, h6, cond_true, h7, cond_false]
                  rw [e]
                  exact c_rwhy_24 s r g ok hd hbl wf_s wf_r wf_g h0 h1 h2 h3 h4 h5 h6 h7
              | false =>
                cases h7 : (decide ((G g.ack r.fin) > (IntKind.i64.wrap (s.win + 1)))) with
                | true =>
                  have e : rwhyF s r g = 4 := by unfold rwhyF; rw [h0, cond_true, h1, cond_true, h2, cond_false, h3, cond_false, h4, cond_true, h5, cond_false, h6, cond_false, h7, cond_true]
                  rw [e]
                  exact c_rwhy_25 s r g ok hd hbl wf_s wf_r wf_g h0 h1 h2 h3 h4 h5 h6 h7
                | false =>
                  have e : rwhyF s r g = 0 := by unfold rwhyF; rw [h0, cond_true, h1, cond_true, h2, cond_false, h3, cond_false, h4, cond_true, h5, cond_false, h6, cond_false, h7, cond_false]
                  rw [e]
                  exact c_rwhy_26 s r g ok hd hbl wf_s wf_r wf_g h0 h1 h2 h3 h4 h5 h6 h7
          | false =>
            have e : rwhyF s r g = 0 := by unfold rwhyF; rw [h0, cond_true, h1, cond_true, h2, cond_false, h3, cond_false, h4, cond_false]
            rw [e]
            exact c_rwhy_27 s r g ok hd hbl wf_s wf_r wf_g h0 h1 h2 h3 h4
    | false =>
      cases h2 : (decide ((G (EndS g) s.fin) > (IntKind.i64.wrap (r.win + 1)))) with
      | true =>
        have e : rwhyF s r g = 2 := by unfold rwhyF; rw [h0, cond_true, h1, cond_false, h2, cond_true]
        rw [e]
        exact c_rwhy_28 s r g ok hd hbl wf_s wf_r wf_g h0 h1 h2
      | false =>
        have e : rwhyF s r g = 0 := by unfold rwhyF; rw [h0, cond_true, h1, cond_false, h2, cond_false]
        rw [e]
        exact c_rwhy_29 s r g ok hd hbl wf_s wf_r wf_g h0 h1 h2
  | false =>
    cases h1 : (r.on) with
    | true =>
      cases h2 : ((Go.bits .and .i64 g.flags 16) != 0) with
      | true =>
        cases h3 : (decide (0 < G r.fin g.ack)) with
        | true =>
          cases h4 : (decide ((G g.ack r.fin) > (IntKind.i64.wrap (s.win + 1)))) with
          | true =>
            have e : rwhyF s r g = 3 := by unfold rwhyF; rw [h0, cond_false, h1, cond_true, h2, cond_true, h3, cond_true, h4, cond_true]
            rw [e]
            exact c_rwhy_30 s r g ok hd hbl wf_s wf_r wf_g h0 h1 h2 h3 h4
          | false =>
            have e : rwhyF s r g = 3 := by unfold rwhyF; rw [h0, cond_false, h1, cond_true, h2, cond_true, h3, cond_true, h4, cond_false]
            rw [e]
            exact c_rwhy_31 s r g ok hd hbl wf_s wf_r wf_g h0 h1 h2 h3 h4
        | false =>
          cases h4 : (decide (0 < G r.fin (Last g))) with
          | true =>
            cases h5 : (decide ((G g.ack r.fin) > (IntKind.i64.wrap (s.win + 1)))) with
            | true =>
              have e : rwhyF s r g = 3 := by unfold rwhyF; rw [h0, cond_false, h1, cond_true, h2, cond_true, h3, cond_false, h4, cond_true, h5, cond_true]
              rw [e]
              exact c_rwhy_32 s r g ok hd hbl wf_s wf_r wf_g h0 h1 h2 h3 h4 h5
            | false =>
              have e : rwhyF s r g = 3 := by unfold rwhyF; rw [h0, cond_false, h1, cond_true, h2, cond_true, h3, cond_false, h4, cond_true, h5, cond_false]
              rw [e]
              exact c_rwhy_33 s r g ok hd hbl wf_s wf_r wf_g h0 h1 h2 h3 h4 h5
          | false =>
            cases h5 : (decide ((G g.ack r.fin) > (IntKind.i64.wrap (s.win + 1)))) with
            | true =>
              have e : rwhyF s r g = 4 := by unfold rwhyF; rw [h0, cond_false, h1, cond_true, h2, cond_true, h3, cond_false, h4, cond_false, h5, cond_true]
              rw [e]
              exact c_rwhy_34 s r g ok hd hbl wf_s wf_r wf_g h0 h1 h2 h3 h4 h5
            | false =>
              have e : rwhyF s r g = 0 := by unfold rwhyF; rw [h0, cond_false, h1, cond_true, h2, cond_true, h3, cond_false, h4, cond_false, h5, cond_false]
              rw [e]
              exact c_rwhy_35 s r g ok hd hbl wf_s wf_r wf_g h0 h1 h2 h3 h4 h5
      | false =>
        have e : rwhyF s r g = 0 := by unfold rwhyF; rw [h0, cond_false, h1, cond_true, h2, cond_false]
        rw [e]
        exact c_rwhy_36 s r g ok hd hbl wf_s wf_r wf_g h0 h1 h2
    | false =>
      have e : rwhyF s r g = 0 := by unfold rwhyF; rw [h0, cond_false, h1, cond_false]
      rw [e]
      exact c_rwhy_37 s r g ok hd hbl wf_s wf_r wf_g h0 h1
end Go.Proofs.Ytfgpcaadgfgkcaa.Acc
