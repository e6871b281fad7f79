/- The laws of window: their walks. For every side, segment and number; no condition but those that each theorem names. -/
import Derived.Test.YtfgpcaadgfgkcaaSide
import Derived.Test.YtfgpcaadgfgkcaaWinLem
namespace Go.Proofs.Ytfgpcaadgfgkcaa.L17
open Go.RowKit Go.Proofs.Ytfgpcaadgfgkcaa.PAll Go.Proofs.YtfgpcaadgfgkcaaW.PrintWords Go.Proofs.YtfgpcaadgfgkcaaW.PrintLast Go.Proofs.Ytfgpcaadgfgkcaa.SeqnLem Go.Proofs.Ytfgpcaadgfgkcaa.Edge Go.Proofs.Ytfgpcaadgfgkcaa.Exec Go.Proofs.Ytfgpcaadgfgkcaa.World_ Go.Proofs.Ytfgpcaadgfgkcaa.Side Go.Proofs.Ytfgpcaadgfgkcaa.Dig Go.Proofs.Ytfgpcaadgfgkcaa.Win Go.Proofs.Ytfgpcaadgfgkcaa.WinLem
set_option linter.unusedVariables false
set_option linter.unusedSimpArgs false
set_option maxRecDepth 100000 in
theorem c_light_0 {w : World} (g : Sg)  {A : Option Addr} {c : Nat} (h0 : (decide ((g.data.size : Int) ≤ 5000)) = true) : Calls Try.prog 25 #[g.V A c] w fun e w' => e = .returned (.bool (decide ((g.blocks.length : Int) ≤ 20))) ∧ Below w.heap.size w w' :=
  calls_of_check rfl Try.func25 1000000 [g.V A c] [(.cast 6 (.bool (decide ((g.data.size : Int) ≤ 5000))) (.bool true))] (by kernel_rfl) (by kernel_rfl)
    (by exact ⟨congrArg Value.bool h0, trivial⟩)
set_option maxRecDepth 100000 in
theorem c_light_1 {w : World} (g : Sg)  {A : Option Addr} {c : Nat} (h0 : (decide ((g.data.size : Int) ≤ 5000)) = false) : Calls Try.prog 25 #[g.V A c] w fun e w' => e = .returned (.bool false) ∧ Below w.heap.size w w' :=
  calls_of_check rfl Try.func25 1000000 [g.V A c] [(.cast 6 (.bool (decide ((g.data.size : Int) ≤ 5000))) (.bool false))] (by kernel_rfl) (by kernel_rfl)
    (by exact ⟨congrArg Value.bool h0, trivial⟩)
def lightF (g : Sg)  : Bool := (bif decide ((g.data.size : Int) ≤ 5000) then (decide ((g.blocks.length : Int) ≤ 20)) else false)
theorem c_light {w : World} (g : Sg)  {A : Option Addr} {c : Nat} : Calls Try.prog 25 #[g.V A c] w fun e w' => e = .returned (.bool (lightF g)) ∧ Below w.heap.size w w' := by
  cases h0 : (decide ((g.data.size : Int) ≤ 5000)) with
  | true =>
    have e : lightF g = (decide ((g.blocks.length : Int) ≤ 20)) := by unfold lightF; rw [h0, cond_true]
    rw [e]
    exact c_light_0 g h0
  | false =>
    have e : lightF g = false := by unfold lightF; rw [h0, cond_false]
    rw [e]
    exact c_light_1 g h0
theorem light_iff (g : Sg) : lightF g = true ↔ g.data.size ≤ 5000 ∧ g.blocks.length ≤ 20 := by
  unfold lightF
  by_cases h1 : (g.data.size : Int) ≤ 5000
  · rw [decide_eq_true h1, cond_true, decide_eq_true_eq]; omega
  · rw [decide_eq_false h1, cond_false]
    constructor
    · intro h; cases h
    · omega
set_option maxRecDepth 100000 in
theorem c_known17_0 {w : World}  : Calls Try.prog 26 #[] w fun e w' => e = .returned (.bool true) ∧ Below w.heap.size w w' :=
  calls_of_check rfl Try.func26 1000000 [] [(.call 32 [.agg #[.int .i64 0, .int .i64 0, .int .u32 9, .int .u32 0, .int .i64 2, .int .i64 100, .int .i64 0, .int .i64 0, .int .i64 2, .bool false, .slice none 0 0, .bool false, .int .u32 0, .int .u32 0, .string ⟨#[]⟩]] (.agg #[.bool true, .int .u32 10, .int .u32 10, .int .u32 0, .bool false, .int .i64 100, .int .i64 2])),
    (.call 32 [.agg #[.int .i64 0, .int .i64 0, .int .u32 49, .int .u32 10, .int .i64 18, .int .i64 0, .int .i64 0, .int .i64 0, .int .i64 1, .bool false, .slice none 0 0, .bool false, .int .u32 0, .int .u32 0, .string ⟨#[]⟩]] (.agg #[.bool true, .int .u32 50, .int .u32 50, .int .u32 10, .bool true, .int .i64 1, .int .i64 1])),
    (.call 30 [.agg #[.bool true, .int .u32 10, .int .u32 10, .int .u32 0, .bool false, .int .i64 100, .int .i64 2], .agg #[.bool true, .int .u32 50, .int .u32 50, .int .u32 10, .bool true, .int .i64 1, .int .i64 1]] (.tuple #[.agg #[.bool true, .int .u32 10, .int .u32 10, .int .u32 0, .bool false, .int .i64 100, .int .i64 2], .agg #[.bool true, .int .u32 50, .int .u32 50, .int .u32 10, .bool true, .int .i64 1, .int .i64 1]])),
    (.call 27 [.agg #[.bool true, .int .u32 50, .int .u32 50, .int .u32 10, .bool true, .int .i64 1, .int .i64 1], .agg #[.bool true, .int .u32 10, .int .u32 10, .int .u32 0, .bool false, .int .i64 100, .int .i64 2], .agg #[.int .i64 0, .int .i64 0, .int .u32 49, .int .u32 10, .int .i64 18, .int .i64 7, .int .i64 0, .int .i64 0, .int .i64 0, .bool false, .slice none 0 0, .bool false, .int .u32 0, .int .u32 0, .string ⟨#[]⟩]] (.tuple #[.agg #[.bool true, .int .u32 50, .int .u32 50, .int .u32 10, .bool true, .int .i64 7, .int .i64 1], .agg #[.bool true, .int .u32 10, .int .u32 17, .int .u32 0, .bool false, .int .i64 100, .int .i64 2]])),
    (.call 27 [.agg #[.bool true, .int .u32 10, .int .u32 17, .int .u32 0, .bool false, .int .i64 100, .int .i64 2], .agg #[.bool true, .int .u32 50, .int .u32 50, .int .u32 10, .bool true, .int .i64 7, .int .i64 1], .agg #[.int .i64 0, .int .i64 0, .int .u32 10, .int .u32 50, .int .i64 16, .int .i64 100, .int .i64 0, .int .i64 0, .int .i64 0, .bool false, .slice none 0 0, .bool false, .int .u32 0, .int .u32 0, .string ⟨#[97, 98, 99]⟩]] (.tuple #[.agg #[.bool true, .int .u32 13, .int .u32 17, .int .u32 50, .bool true, .int .i64 400, .int .i64 2], .agg #[.bool true, .int .u32 50, .int .u32 450, .int .u32 10, .bool true, .int .i64 7, .int .i64 1]])),
    (.call 34 [.agg #[.bool true, .int .u32 10, .int .u32 17, .int .u32 0, .bool false, .int .i64 100, .int .i64 2]] (.string ⟨#[49, 48, 32, 49, 55, 32, 49, 48, 48, 32, 50, 32, 45]⟩)),
    (.orc 33 (.binOp .eql 9 (.const (.string ⟨#[49, 48, 32, 49, 55, 32, 49, 48, 48, 32, 50, 32, 45]⟩)) (.const (.string ⟨#[49, 48, 32, 49, 55, 32, 49, 48, 48, 32, 50, 32, 45]⟩)) 9) (.bool true)),
    (.call 34 [.agg #[.bool true, .int .u32 50, .int .u32 50, .int .u32 10, .bool true, .int .i64 7, .int .i64 1]] (.string ⟨#[53, 48, 32, 53, 48, 32, 55, 32, 49, 32, 49, 48]⟩)),
    (.orc 37 (.binOp .eql 9 (.const (.string ⟨#[53, 48, 32, 53, 48, 32, 55, 32, 49, 32, 49, 48]⟩)) (.const (.string ⟨#[53, 48, 32, 53, 48, 32, 55, 32, 49, 32, 49, 48]⟩)) 9) (.bool true)),
    (.call 34 [.agg #[.bool true, .int .u32 13, .int .u32 17, .int .u32 50, .bool true, .int .i64 400, .int .i64 2]] (.string ⟨#[49, 51, 32, 49, 55, 32, 52, 48, 48, 32, 50, 32, 53, 48]⟩)),
    (.orc 42 (.binOp .eql 9 (.const (.string ⟨#[49, 51, 32, 49, 55, 32, 52, 48, 48, 32, 50, 32, 53, 48]⟩)) (.const (.string ⟨#[49, 51, 32, 49, 55, 32, 52, 48, 48, 32, 50, 32, 53, 48]⟩)) 9) (.bool true)),
    (.call 34 [.agg #[.bool true, .int .u32 50, .int .u32 450, .int .u32 10, .bool true, .int .i64 7, .int .i64 1]] (.string ⟨#[53, 48, 32, 52, 53, 48, 32, 55, 32, 49, 32, 49, 48]⟩)),
    (.orc 47 (.binOp .eql 9 (.const (.string ⟨#[53, 48, 32, 52, 53, 48, 32, 55, 32, 49, 32, 49, 48]⟩)) (.const (.string ⟨#[53, 48, 32, 52, 53, 48, 32, 55, 32, 49, 32, 49, 48]⟩)) 9) (.bool true)),
    (.call 34 [.agg #[.bool false, .int .u32 0, .int .u32 0, .int .u32 0, .bool false, .int .i64 0, .int .i64 0]] (.string ⟨#[111, 102, 102]⟩)),
    (.orc 52 (.binOp .eql 9 (.const (.string ⟨#[111, 102, 102]⟩)) (.const (.string ⟨#[111, 102, 102]⟩)) 9) (.bool true))] (by kernel_rfl) (by kernel_rfl)
    (by exact ⟨⟨ent Try.func32 rfl rfl, fun w' hw => ret_eq (by kernel_rfl) ((fun w' hw => c_begin ⟨0, 0, 9, 0, 2, 100, 0, 0, 2, false, [], false, 0, 0, ⟨#[]⟩⟩ (ok_nil rfl) (by decide)) w' hw)⟩, ⟨ent Try.func32 rfl rfl, fun w' hw => ret_eq (by kernel_rfl) ((fun w' hw => c_begin ⟨0, 0, 49, 10, 18, 0, 0, 0, 1, false, [], false, 0, 0, ⟨#[]⟩⟩ (ok_nil rfl) (by decide)) w' hw)⟩, ⟨ent Try.func30 rfl rfl, fun w' hw => ret_eq (by kernel_rfl) ((fun w' hw => c_scales ⟨true, 10, 10, 0, false, 100, 2⟩ ⟨true, 50, 50, 10, true, 1, 1⟩) w' hw)⟩, ⟨ent Try.func27 rfl rfl, fun w' hw => ret_eq (by kernel_rfl) ((fun w' hw => c_note ⟨true, 50, 50, 10, true, 1, 1⟩ ⟨true, 10, 10, 0, false, 100, 2⟩ ⟨0, 0, 49, 10, 18, 7, 0, 0, 0, false, [], false, 0, 0, ⟨#[]⟩⟩ (ok_nil rfl) (by decide)) w' hw)⟩, ⟨ent Try.func27 rfl rfl, fun w' hw => ret_eq (by kernel_rfl) ((fun w' hw => c_note ⟨true, 10, 17, 0, false, 100, 2⟩ ⟨true, 50, 50, 10, true, 7, 1⟩ ⟨0, 0, 10, 50, 16, 100, 0, 0, 0, false, [], false, 0, 0, ⟨#[97, 98, 99]⟩⟩ (ok_nil rfl) (by decide)) w' hw)⟩, ⟨ent Try.func34 rfl rfl, fun w' hw => ret_eq (by kernel_rfl) ((fun w' hw => c_show ⟨true, 10, 17, 0, false, 100, 2⟩ (by constructor <;> decide) (by decide) (by decide) (by decide) (by decide)) w' hw)⟩, orc_eq (congrArg Value.bool (by decide)) orc_seql, ⟨ent Try.func34 rfl rfl, fun w' hw => ret_eq (by kernel_rfl) ((fun w' hw => c_show ⟨true, 50, 50, 10, true, 7, 1⟩ (by constructor <;> decide) (by decide) (by decide) (by decide) (by decide)) w' hw)⟩, orc_eq (congrArg Value.bool (by decide)) orc_seql, ⟨ent Try.func34 rfl rfl, fun w' hw => ret_eq (by kernel_rfl) ((fun w' hw => c_show ⟨true, 13, 17, 50, true, 400, 2⟩ (by constructor <;> decide) (by decide) (by decide) (by decide) (by decide)) w' hw)⟩, orc_eq (congrArg Value.bool (by decide)) orc_seql, ⟨ent Try.func34 rfl rfl, fun w' hw => ret_eq (by kernel_rfl) ((fun w' hw => c_show ⟨true, 50, 450, 10, true, 7, 1⟩ (by constructor <;> decide) (by decide) (by decide) (by decide) (by decide)) w' hw)⟩, orc_eq (congrArg Value.bool (by decide)) orc_seql, ⟨ent Try.func34 rfl rfl, fun w' hw => ret_eq (by kernel_rfl) ((fun w' hw => c_show ⟨false, 0, 0, 0, false, 0, 0⟩ (by constructor <;> decide) (by decide) (by decide) (by decide) (by decide)) w' hw)⟩, orc_eq (congrArg Value.bool (by decide)) orc_seql, trivial⟩)
def known17F  : Bool := true
theorem c_known17 {w : World}  : Calls Try.prog 26 #[] w fun e w' => e = .returned (.bool (known17F)) ∧ Below w.heap.size w w' := by
  exact c_known17_0 
set_option maxRecDepth 100000 in
theorem WindowRises_way_0 {w : World} (s : Sd) (r : Sd) (g : Sg)  {A : Option Addr} {c : Nat} (ok : g.Ok A c w) (wf_g : g.Wf) (wf_s : s.Wf) (wf_r : r.Wf) (h0 : (!(lightF g)) = true) : Calls Try.prog 7 #[s.V, r.V, g.V A c] w fun e w' => e = .returned (.bool true) ∧ Below w.heap.size w w' :=
  calls_of_check rfl Try.func7 1000000 [s.V, r.V, g.V A c] [(.call 25 [g.V A c] (.bool (lightF g))),
    (.cast 11 (.bool (!(lightF g))) (.bool true)),
    (.call 26 [] (.bool true))] (by kernel_rfl) (by kernel_rfl)
    (by exact ⟨⟨ent Try.func25 rfl rfl, fun w' hw => c_light g⟩, congrArg Value.bool h0, ⟨ent Try.func26 rfl rfl, fun w' hw => c_known17⟩, trivial⟩)
set_option maxRecDepth 100000 in
theorem WindowRises_way_1 {w : World} (s : Sd) (r : Sd) (g : Sg)  {A : Option Addr} {c : Nat} (ok : g.Ok A c w) (wf_g : g.Wf) (wf_s : s.Wf) (wf_r : r.Wf) (hd : g.data.size ≤ 1000000) (hbl : g.blocks.length ≤ 1000000) (h0 : (!(lightF g)) = false) (h1 : (decide (s.scale < 0)) = true) : Calls Try.prog 7 #[s.V, r.V, g.V A c] w fun e w' => e = .returned (.bool true) ∧ Below w.heap.size w w' :=
  calls_of_check rfl Try.func7 1000000 [s.V, r.V, g.V A c] [(.call 25 [g.V A c] (.bool (lightF g))),
    (.cast 11 (.bool (!(lightF g))) (.bool false)),
    (.cast 15 (.bool (decide (s.scale < 0))) (.bool true)),
    (.call 26 [] (.bool true))] (by kernel_rfl) (by kernel_rfl)
    (by exact ⟨⟨ent Try.func25 rfl rfl, fun w' hw => c_light g⟩, congrArg Value.bool h0, congrArg Value.bool h1, ⟨ent Try.func26 rfl rfl, fun w' hw => c_known17⟩, trivial⟩)
set_option maxRecDepth 100000 in
theorem WindowRises_way_2 {w : World} (s : Sd) (r : Sd) (g : Sg)  {A : Option Addr} {c : Nat} (ok : g.Ok A c w) (wf_g : g.Wf) (wf_s : s.Wf) (wf_r : r.Wf) (hd : g.data.size ≤ 1000000) (hbl : g.blocks.length ≤ 1000000) (h0 : (!(lightF g)) = false) (h1 : (decide (s.scale < 0)) = false) (h2 : (decide (s.scale > 14)) = true) : Calls Try.prog 7 #[s.V, r.V, g.V A c] w fun e w' => e = .returned (.bool true) ∧ Below w.heap.size w w' :=
  calls_of_check rfl Try.func7 1000000 [s.V, r.V, g.V A c] [(.call 25 [g.V A c] (.bool (lightF g))),
    (.cast 11 (.bool (!(lightF g))) (.bool false)),
    (.cast 15 (.bool (decide (s.scale < 0))) (.bool false)),
    (.cast 20 (.bool (decide (s.scale > 14))) (.bool true)),
    (.call 26 [] (.bool true))] (by kernel_rfl) (by kernel_rfl)
    (by exact ⟨⟨ent Try.func25 rfl rfl, fun w' hw => c_light g⟩, congrArg Value.bool h0, congrArg Value.bool h1, congrArg Value.bool h2, ⟨ent Try.func26 rfl rfl, fun w' hw => c_known17⟩, trivial⟩)
set_option maxRecDepth 100000 in
theorem WindowRises_way_3 {w : World} (s : Sd) (r : Sd) (g : Sg)  {A : Option Addr} {c : Nat} (ok : g.Ok A c w) (wf_g : g.Wf) (wf_s : s.Wf) (wf_r : r.Wf) (hd : g.data.size ≤ 1000000) (hbl : g.blocks.length ≤ 1000000) (h0 : (!(lightF g)) = false) (h1 : (decide (s.scale < 0)) = false) (h2 : (decide (s.scale > 14)) = false) (h3 : (decide (0 ≤ G s.fin ((noteF s r g).1.fin))) = true) (h4 : (decide (0 ≤ G r.max ((noteF s r g).2.max))) = true) (h5 : (!s.has) = true) (h6 : (decide (((noteF s r g).1.win) ≥ s.win)) = true) (h7 : (decide (((noteF s r g).1.win) ≥ 1)) = true) (h8 : (((noteF s r g).1.max) == s.max) = true) (h9 : (((noteF s r g).2.fin) == r.fin) = true) (h10 : (((noteF s r g).2.ack) == r.ack) = true) (h11 : (((noteF s r g).2.win) == r.win) = true) (h12 : (((noteF s r g).1.on) == s.on) = true) (h13 : (((noteF s r g).2.on) == r.on) = true) : Calls Try.prog 7 #[s.V, r.V, g.V A c] w fun e w' => e = .returned (.bool true) ∧ Below w.heap.size w w' :=
  calls_of_check rfl Try.func7 1000000 [s.V, r.V, g.V A c] [(.call 25 [g.V A c] (.bool (lightF g))),
    (.cast 11 (.bool (!(lightF g))) (.bool false)),
    (.cast 15 (.bool (decide (s.scale < 0))) (.bool false)),
    (.cast 20 (.bool (decide (s.scale > 14))) (.bool false)),
    (.call 27 [s.V, r.V, g.V A c] (.tuple #[(noteF s r g).1.V, (noteF s r g).2.V])),
    (.call 36 [.int .u32 s.fin, .int .u32 ((noteF s r g).1.fin)] (.bool true)),
    (.call 36 [.int .u32 r.max, .int .u32 ((noteF s r g).2.max)] (.bool true)),
    (.cast 45 (.bool !s.has) (.bool true)),
    (.cast 63 (.bool (decide (((noteF s r g).1.win) ≥ s.win))) (.bool true)),
    (.cast 68 (.bool (decide (((noteF s r g).1.win) ≥ 1))) (.bool true)),
    (.cast 75 (.bool (((noteF s r g).1.max) == s.max)) (.bool true)),
    (.cast 82 (.bool (((noteF s r g).2.fin) == r.fin)) (.bool true)),
    (.cast 89 (.bool (((noteF s r g).2.ack) == r.ack)) (.bool true)),
    (.cast 96 (.bool (((noteF s r g).2.win) == r.win)) (.bool true)),
    (.cast 103 (.bool (((noteF s r g).1.on) == s.on)) (.bool true)),
    (.cast 110 (.bool (((noteF s r g).2.on) == r.on)) (.bool true)),
    (.call 26 [] (.bool true))] (by kernel_rfl) (by kernel_rfl)
    (by exact ⟨⟨ent Try.func25 rfl rfl, fun w' hw => c_light g⟩, congrArg Value.bool h0, congrArg Value.bool h1, congrArg Value.bool h2, ⟨ent Try.func27 rfl rfl, fun w' hw => c_note s r g (ok.keep hw) hd⟩, ⟨ent Try.func36 rfl rfl, fun w' hw => ret_eq (congrArg Value.bool h3) ((fun w' hw => c_rupto wf_s.fin (note_n wf_s wf_r wf_g).1) w' hw)⟩, ⟨ent Try.func36 rfl rfl, fun w' hw => ret_eq (congrArg Value.bool h4) ((fun w' hw => c_rupto wf_r.max (note_n wf_s wf_r wf_g).2.2.2.2.1) w' hw)⟩, congrArg Value.bool h5, congrArg Value.bool h6, congrArg Value.bool h7, congrArg Value.bool h8, congrArg Value.bool h9, congrArg Value.bool h10, congrArg Value.bool h11, congrArg Value.bool h12, congrArg Value.bool h13, ⟨ent Try.func26 rfl rfl, fun w' hw => c_known17⟩, trivial⟩)
set_option maxRecDepth 100000 in
theorem WindowRises_way_4 {w : World} (s : Sd) (r : Sd) (g : Sg)  {A : Option Addr} {c : Nat} (ok : g.Ok A c w) (wf_g : g.Wf) (wf_s : s.Wf) (wf_r : r.Wf) (hd : g.data.size ≤ 1000000) (hbl : g.blocks.length ≤ 1000000) (h0 : (!(lightF g)) = false) (h1 : (decide (s.scale < 0)) = false) (h2 : (decide (s.scale > 14)) = false) (h3 : (decide (0 ≤ G s.fin ((noteF s r g).1.fin))) = true) (h4 : (decide (0 ≤ G r.max ((noteF s r g).2.max))) = true) (h5 : (!s.has) = false) (h6 : (decide (0 ≤ G s.ack ((noteF s r g).1.ack))) = true) (h7 : ((noteF s r g).1.has) = true) (h8 : (decide (((noteF s r g).1.win) ≥ s.win)) = true) (h9 : (decide (((noteF s r g).1.win) ≥ 1)) = true) (h10 : (((noteF s r g).1.max) == s.max) = true) (h11 : (((noteF s r g).2.fin) == r.fin) = true) (h12 : (((noteF s r g).2.ack) == r.ack) = true) (h13 : (((noteF s r g).2.win) == r.win) = true) (h14 : (((noteF s r g).1.on) == s.on) = true) (h15 : (((noteF s r g).2.on) == r.on) = true) : Calls Try.prog 7 #[s.V, r.V, g.V A c] w fun e w' => e = .returned (.bool true) ∧ Below w.heap.size w w' :=
  calls_of_check rfl Try.func7 1000000 [s.V, r.V, g.V A c] [(.call 25 [g.V A c] (.bool (lightF g))),
    (.cast 11 (.bool (!(lightF g))) (.bool false)),
    (.cast 15 (.bool (decide (s.scale < 0))) (.bool false)),
    (.cast 20 (.bool (decide (s.scale > 14))) (.bool false)),
    (.call 27 [s.V, r.V, g.V A c] (.tuple #[(noteF s r g).1.V, (noteF s r g).2.V])),
    (.call 36 [.int .u32 s.fin, .int .u32 ((noteF s r g).1.fin)] (.bool true)),
    (.call 36 [.int .u32 r.max, .int .u32 ((noteF s r g).2.max)] (.bool true)),
    (.cast 45 (.bool !s.has) (.bool false)),
    (.call 36 [.int .u32 s.ack, .int .u32 ((noteF s r g).1.ack)] (.bool true)),
    (.cast 54 (.bool ((noteF s r g).1.has)) (.bool true)),
    (.cast 63 (.bool (decide (((noteF s r g).1.win) ≥ s.win))) (.bool true)),
    (.cast 68 (.bool (decide (((noteF s r g).1.win) ≥ 1))) (.bool true)),
    (.cast 75 (.bool (((noteF s r g).1.max) == s.max)) (.bool true)),
    (.cast 82 (.bool (((noteF s r g).2.fin) == r.fin)) (.bool true)),
    (.cast 89 (.bool (((noteF s r g).2.ack) == r.ack)) (.bool true)),
    (.cast 96 (.bool (((noteF s r g).2.win) == r.win)) (.bool true)),
    (.cast 103 (.bool (((noteF s r g).1.on) == s.on)) (.bool true)),
    (.cast 110 (.bool (((noteF s r g).2.on) == r.on)) (.bool true)),
    (.call 26 [] (.bool true))] (by kernel_rfl) (by kernel_rfl)
    (by exact ⟨⟨ent Try.func25 rfl rfl, fun w' hw => c_light g⟩, congrArg Value.bool h0, congrArg Value.bool h1, congrArg Value.bool h2, ⟨ent Try.func27 rfl rfl, fun w' hw => c_note s r g (ok.keep hw) hd⟩, ⟨ent Try.func36 rfl rfl, fun w' hw => ret_eq (congrArg Value.bool h3) ((fun w' hw => c_rupto wf_s.fin (note_n wf_s wf_r wf_g).1) w' hw)⟩, ⟨ent Try.func36 rfl rfl, fun w' hw => ret_eq (congrArg Value.bool h4) ((fun w' hw => c_rupto wf_r.max (note_n wf_s wf_r wf_g).2.2.2.2.1) w' hw)⟩, congrArg Value.bool h5, ⟨ent Try.func36 rfl rfl, fun w' hw => ret_eq (congrArg Value.bool h6) ((fun w' hw => c_rupto wf_s.ack (note_n wf_s wf_r wf_g).2.2.1) w' hw)⟩, congrArg Value.bool h7, congrArg Value.bool h8, congrArg Value.bool h9, congrArg Value.bool h10, congrArg Value.bool h11, congrArg Value.bool h12, congrArg Value.bool h13, congrArg Value.bool h14, congrArg Value.bool h15, ⟨ent Try.func26 rfl rfl, fun w' hw => c_known17⟩, trivial⟩)
theorem WindowRises {w : World} (s : Sd) (r : Sd) (g : Sg)  {A : Option Addr} {c : Nat} (ok : g.Ok A c w) (wf_g : g.Wf) (wf_s : s.Wf) (wf_r : r.Wf) : Calls Try.prog 7 #[s.V, r.V, g.V A c] w fun e w' => e = .returned (.bool true) ∧ Below w.heap.size w w' := by
  cases h0 : (!(lightF g)) with
  | true =>
    exact WindowRises_way_0 s r g ok wf_g wf_s wf_r h0
  | false =>
    have hl := (light_iff g).1 (by simpa using h0)
    have hd : g.data.size ≤ 1000000 := by omega
    have hbl : g.blocks.length ≤ 1000000 := by omega
    cases h1 : (decide (s.scale < 0)) with
    | true =>
      exact WindowRises_way_1 s r g ok wf_g wf_s wf_r hd hbl h0 h1
    | false =>
      cases h2 : (decide (s.scale > 14)) with
      | true =>
        exact WindowRises_way_2 s r g ok wf_g wf_s wf_r hd hbl h0 h1 h2
      | false =>
        have h3 : (decide (0 ≤ G s.fin ((noteF s r g).1.fin))) = true := by
          exact rise_fin s r g
        have h4 : (decide (0 ≤ G r.max ((noteF s r g).2.max))) = true := by
          exact rise_max s r g
        cases h5 : (!s.has) with
        | true =>
          have h6 : (decide (((noteF s r g).1.win) ≥ s.win)) = true := by
            exact rise_win s r g
          have h7 : (decide (((noteF s r g).1.win) ≥ 1)) = true := by
            exact rise_win1 s r g
          have h8 : (((noteF s r g).1.max) == s.max) = true := by
            exact (stays s r g).1
          have h9 : (((noteF s r g).2.fin) == r.fin) = true := by
            exact (stays s r g).2.1
          have h10 : (((noteF s r g).2.ack) == r.ack) = true := by
            exact (stays s r g).2.2.1
          have h11 : (((noteF s r g).2.win) == r.win) = true := by
            exact (stays s r g).2.2.2.1
          have h12 : (((noteF s r g).1.on) == s.on) = true := by
            exact (stays s r g).2.2.2.2.1
          have h13 : (((noteF s r g).2.on) == r.on) = true := by
            exact (stays s r g).2.2.2.2.2
          exact WindowRises_way_3 s r g ok wf_g wf_s wf_r hd hbl h0 h1 h2 h3 h4 h5 h6 h7 h8 h9 h10 h11 h12 h13
        | false =>
          have h6 : (decide (0 ≤ G s.ack ((noteF s r g).1.ack))) = true := by
            exact rise_ack s r g (by simpa using h5)
          have h7 : ((noteF s r g).1.has) = true := by
            exact rise_has s r g (by simpa using h5)
          have h8 : (decide (((noteF s r g).1.win) ≥ s.win)) = true := by
            exact rise_win s r g
          have h9 : (decide (((noteF s r g).1.win) ≥ 1)) = true := by
            exact rise_win1 s r g
          have h10 : (((noteF s r g).1.max) == s.max) = true := by
            exact (stays s r g).1
          have h11 : (((noteF s r g).2.fin) == r.fin) = true := by
            exact (stays s r g).2.1
          have h12 : (((noteF s r g).2.ack) == r.ack) = true := by
            exact (stays s r g).2.2.1
          have h13 : (((noteF s r g).2.win) == r.win) = true := by
            exact (stays s r g).2.2.2.1
          have h14 : (((noteF s r g).1.on) == s.on) = true := by
            exact (stays s r g).2.2.2.2.1
          have h15 : (((noteF s r g).2.on) == r.on) = true := by
            exact (stays s r g).2.2.2.2.2
          exact WindowRises_way_4 s r g ok wf_g wf_s wf_r hd hbl h0 h1 h2 h3 h4 h5 h6 h7 h8 h9 h10 h11 h12 h13 h14 h15
theorem WindowRises_row {w : World} (s : Sd) (wf_s : s.Wf) (r : Sd) (wf_r : r.Wf) (g : Sg) (A : Option Addr) (c : Nat) (ok : g.Ok A c w) (wf_g : g.Wf) : Calls Try.prog 7 #[s.V, r.V, g.V A c] w fun e w' => e = .returned (.bool true) ∧ Below w.heap.size w w' := WindowRises s r g ok wf_g wf_s wf_r
set_option maxRecDepth 100000 in
theorem WindowTwice_way_0 {w : World} (s : Sd) (r : Sd) (g : Sg)  {A : Option Addr} {c : Nat} (ok : g.Ok A c w) (wf_g : g.Wf) (wf_s : s.Wf) (wf_r : r.Wf) (h0 : (!(lightF g)) = true) : Calls Try.prog 8 #[s.V, r.V, g.V A c] w fun e w' => e = .returned (.bool true) ∧ Below w.heap.size w w' :=
  calls_of_check rfl Try.func8 1000000 [s.V, r.V, g.V A c] [(.call 25 [g.V A c] (.bool (lightF g))),
    (.cast 13 (.bool (!(lightF g))) (.bool true)),
    (.call 26 [] (.bool true))] (by kernel_rfl) (by kernel_rfl)
    (by exact ⟨⟨ent Try.func25 rfl rfl, fun w' hw => c_light g⟩, congrArg Value.bool h0, ⟨ent Try.func26 rfl rfl, fun w' hw => c_known17⟩, trivial⟩)
set_option maxRecDepth 100000 in
theorem WindowTwice_way_1 {w : World} (s : Sd) (r : Sd) (g : Sg)  {A : Option Addr} {c : Nat} (ok : g.Ok A c w) (wf_g : g.Wf) (wf_s : s.Wf) (wf_r : r.Wf) (hd : g.data.size ≤ 1000000) (hbl : g.blocks.length ≤ 1000000) (h0 : (!(lightF g)) = false) (h1 : (decide (s.scale < 0)) = true) : Calls Try.prog 8 #[s.V, r.V, g.V A c] w fun e w' => e = .returned (.bool true) ∧ Below w.heap.size w w' :=
  calls_of_check rfl Try.func8 1000000 [s.V, r.V, g.V A c] [(.call 25 [g.V A c] (.bool (lightF g))),
    (.cast 13 (.bool (!(lightF g))) (.bool false)),
    (.cast 17 (.bool (decide (s.scale < 0))) (.bool true)),
    (.call 26 [] (.bool true))] (by kernel_rfl) (by kernel_rfl)
    (by exact ⟨⟨ent Try.func25 rfl rfl, fun w' hw => c_light g⟩, congrArg Value.bool h0, congrArg Value.bool h1, ⟨ent Try.func26 rfl rfl, fun w' hw => c_known17⟩, trivial⟩)
set_option maxRecDepth 100000 in
theorem WindowTwice_way_2 {w : World} (s : Sd) (r : Sd) (g : Sg)  {A : Option Addr} {c : Nat} (ok : g.Ok A c w) (wf_g : g.Wf) (wf_s : s.Wf) (wf_r : r.Wf) (hd : g.data.size ≤ 1000000) (hbl : g.blocks.length ≤ 1000000) (h0 : (!(lightF g)) = false) (h1 : (decide (s.scale < 0)) = false) (h2 : (decide (s.scale > 14)) = true) : Calls Try.prog 8 #[s.V, r.V, g.V A c] w fun e w' => e = .returned (.bool true) ∧ Below w.heap.size w w' :=
  calls_of_check rfl Try.func8 1000000 [s.V, r.V, g.V A c] [(.call 25 [g.V A c] (.bool (lightF g))),
    (.cast 13 (.bool (!(lightF g))) (.bool false)),
    (.cast 17 (.bool (decide (s.scale < 0))) (.bool false)),
    (.cast 22 (.bool (decide (s.scale > 14))) (.bool true)),
    (.call 26 [] (.bool true))] (by kernel_rfl) (by kernel_rfl)
    (by exact ⟨⟨ent Try.func25 rfl rfl, fun w' hw => c_light g⟩, congrArg Value.bool h0, congrArg Value.bool h1, congrArg Value.bool h2, ⟨ent Try.func26 rfl rfl, fun w' hw => c_known17⟩, trivial⟩)
set_option maxRecDepth 100000 in
theorem WindowTwice_way_3 {w : World} (s : Sd) (r : Sd) (g : Sg)  {A : Option Addr} {c : Nat} (ok : g.Ok A c w) (wf_g : g.Wf) (wf_s : s.Wf) (wf_r : r.Wf) (hd : g.data.size ≤ 1000000) (hbl : g.blocks.length ≤ 1000000) (h0 : (!(lightF g)) = false) (h1 : (decide (s.scale < 0)) = false) (h2 : (decide (s.scale > 14)) = false) (h3 : (Sd.eq ((noteF s r g).1) ((noteF ((noteF s r g).1) ((noteF s r g).2) g).1)) = true) (h4 : (Sd.eq ((noteF s r g).2) ((noteF ((noteF s r g).1) ((noteF s r g).2) g).2)) = true) : Calls Try.prog 8 #[s.V, r.V, g.V A c] w fun e w' => e = .returned (.bool true) ∧ Below w.heap.size w w' :=
  calls_of_check rfl Try.func8 1000000 [s.V, r.V, g.V A c] [(.call 25 [g.V A c] (.bool (lightF g))),
    (.cast 13 (.bool (!(lightF g))) (.bool false)),
    (.cast 17 (.bool (decide (s.scale < 0))) (.bool false)),
    (.cast 22 (.bool (decide (s.scale > 14))) (.bool false)),
    (.call 27 [s.V, r.V, g.V A c] (.tuple #[(noteF s r g).1.V, (noteF s r g).2.V])),
    (.call 27 [(noteF s r g).1.V, (noteF s r g).2.V, g.V A c] (.tuple #[(noteF ((noteF s r g).1) ((noteF s r g).2) g).1.V, (noteF ((noteF s r g).1) ((noteF s r g).2) g).2.V])),
    (.orc 41 (.binOp .eql 24 (.const ((noteF s r g).1.V)) (.const ((noteF ((noteF s r g).1) ((noteF s r g).2) g).1.V)) 24) (.bool true)),
    (.orc 45 (.binOp .eql 24 (.const ((noteF s r g).2.V)) (.const ((noteF ((noteF s r g).1) ((noteF s r g).2) g).2.V)) 24) (.bool true)),
    (.call 26 [] (.bool true))] (by kernel_rfl) (by kernel_rfl)
    (by exact ⟨⟨ent Try.func25 rfl rfl, fun w' hw => c_light g⟩, congrArg Value.bool h0, congrArg Value.bool h1, congrArg Value.bool h2, ⟨ent Try.func27 rfl rfl, fun w' hw => c_note s r g (ok.keep hw) hd⟩, ⟨ent Try.func27 rfl rfl, fun w' hw => c_note ((noteF s r g).1) ((noteF s r g).2) g (ok.keep hw) hd⟩, orc_eq (congrArg Value.bool h3) (orc_eql (by kernel_rfl) (eq24 ((noteF s r g).1) ((noteF ((noteF s r g).1) ((noteF s r g).2) g).1))), orc_eq (congrArg Value.bool h4) (orc_eql (by kernel_rfl) (eq24 ((noteF s r g).2) ((noteF ((noteF s r g).1) ((noteF s r g).2) g).2))), ⟨ent Try.func26 rfl rfl, fun w' hw => c_known17⟩, trivial⟩)
theorem WindowTwice {w : World} (s : Sd) (r : Sd) (g : Sg)  {A : Option Addr} {c : Nat} (ok : g.Ok A c w) (wf_g : g.Wf) (wf_s : s.Wf) (wf_r : r.Wf) : Calls Try.prog 8 #[s.V, r.V, g.V A c] w fun e w' => e = .returned (.bool true) ∧ Below w.heap.size w w' := by
  cases h0 : (!(lightF g)) with
  | true =>
    exact WindowTwice_way_0 s r g ok wf_g wf_s wf_r h0
  | false =>
    have hl := (light_iff g).1 (by simpa using h0)
    have hd : g.data.size ≤ 1000000 := by omega
    have hbl : g.blocks.length ≤ 1000000 := by omega
    cases h1 : (decide (s.scale < 0)) with
    | true =>
      exact WindowTwice_way_1 s r g ok wf_g wf_s wf_r hd hbl h0 h1
    | false =>
      cases h2 : (decide (s.scale > 14)) with
      | true =>
        exact WindowTwice_way_2 s r g ok wf_g wf_s wf_r hd hbl h0 h1 h2
      | false =>
        have h3 : (Sd.eq ((noteF s r g).1) ((noteF ((noteF s r g).1) ((noteF s r g).2) g).1)) = true := by
          rw [note_twice]
          exact (Sd.eq_iff _ _).2 rfl
        have h4 : (Sd.eq ((noteF s r g).2) ((noteF ((noteF s r g).1) ((noteF s r g).2) g).2)) = true := by
          rw [note_twice]
          exact (Sd.eq_iff _ _).2 rfl
        exact WindowTwice_way_3 s r g ok wf_g wf_s wf_r hd hbl h0 h1 h2 h3 h4
theorem WindowTwice_row {w : World} (s : Sd) (wf_s : s.Wf) (r : Sd) (wf_r : r.Wf) (g : Sg) (A : Option Addr) (c : Nat) (ok : g.Ok A c w) (wf_g : g.Wf) : Calls Try.prog 8 #[s.V, r.V, g.V A c] w fun e w' => e = .returned (.bool true) ∧ Below w.heap.size w w' := WindowTwice s r g ok wf_g wf_s wf_r
def WindowTells_way_T0 : Bool × List (List Nat × List Nat) := (true, [([], []), ([0], [0]), ([], []), ([2, 1], [2]), ([], []), ([1, 3, 4, 3], [1, 3, 4]), ([5], [5]), ([6], [6]), ([6], [6]), ([], []), ([], []), ([9, 7, 5, 0, 1, 2, 3, 4, 5, 6, 7, 9, 10], [7, 9]), ([10, 8, 11, 0, 1, 2, 3, 4, 5, 6, 7, 8, 9, 10, 11], [8, 10])])
def WindowTells_way_B0 : List Nat := [0, 1, 0, 7, 0, 31, 63, 127, 127, 0, 0, 1791, 4095]
def WindowTells_way_T1 : Bool × List (List Nat × List Nat) := (true, [([], []), ([0], [0]), ([], []), ([2, 1], [2]), ([1, 3, 3], [1, 3]), ([4], [4]), ([5], [5]), ([5], [5]), ([], []), ([], []), ([8, 6, 4, 0, 1, 2, 3, 4, 5, 6, 8, 9], [6, 8]), ([9, 7, 10, 0, 1, 2, 3, 4, 5, 6, 7, 8, 9, 10], [7, 9])])
def WindowTells_way_B1 : List Nat := [0, 1, 0, 7, 15, 31, 63, 63, 0, 0, 895, 2047]
def WindowTells_way_T2 : Bool × List (List Nat × List Nat) := (true, [([], []), ([0], [0]), ([1, 1], [1]), ([], []), ([3, 2], [3]), ([2, 4], [2, 4]), ([5, 4], [5]), ([6], [6]), ([7, 6, 6], [6, 7]), ([6], [6]), ([8, 9, 6], [6, 8, 9]), ([6, 10], [6, 10]), ([11, 8], [11]), ([12], [12]), ([13, 12, 12], [12, 13]), ([12], [12]), ([14, 15, 12], [12, 14, 15]), ([12, 16], [12, 16]), ([17, 14], [17]), ([18], [18]), ([19, 18, 18], [18, 19]), ([18], [18]), ([20, 21, 18], [18, 20, 21]), ([18, 22], [18, 22]), ([23, 20], [23]), ([24], [24]), ([25, 24, 24], [24, 25]), ([24], [24]), ([26, 27, 24], [24, 26, 27]), ([24, 28], [24, 28]), ([29, 26], [29]), ([30], [30]), ([31, 30, 30], [30, 31]), ([30], [30]), ([33, 32, 30], [30, 33]), ([34, 34, 30], [30, 34]), ([32, 35, 30], [30, 32, 35]), ([30, 36], [30, 36]), ([37, 35], [37]), ([38, 38], [38]), ([38, 39], [38, 39]), ([40, 39, 0, 1, 2, 3, 4, 5, 6, 7, 8, 9, 10, 11, 12, 13, 14, 15, 16, 17, 18, 19, 20, 21, 22, 23, 24, 25, 26, 27, 28, 29, 30, 31, 32, 33, 34, 35, 36, 37, 38, 39, 40], [40])])
def WindowTells_way_B2 : List Nat := [0, 1, 3, 0, 15, 31, 63, 127, 255, 127, 1023, 2047, 4095, 8191, 16383, 8191, 65535, 131071, 262143, 524287, 1048575, 524287, 4194303, 8388607, 16777215, 33554431, 67108863, 33554431, 268435455, 536870911, 1073741823, 2147483647, 4294967295, 2147483647, 17179869183, 34359738367, 68719476735, 137438953471, 274877906943, 549755813887, 1099511627775, 2199023255551]
set_option maxRecDepth 100000 in
theorem WindowTells_way_0 {w : World} (s : Sd) (r : Sd) (g : Sg)  {A : Option Addr} {c : Nat} (ok : g.Ok A c w) (wf_g : g.Wf) (wf_s : s.Wf) (wf_r : r.Wf) (h0 : (!(lightF g)) = true) : Calls Try.prog 6 #[s.V, r.V, g.V A c] w fun e w' => e = .returned (.bool true) ∧ Below w.heap.size w w' :=
  calls_of_check rfl Try.func6 1000000 [s.V, r.V, g.V A c] [(.call 25 [g.V A c] (.bool (lightF g))),
    (.cast 17 (.bool (!(lightF g))) (.bool true)),
    (.call 26 [] (.bool true))] (by kernel_rfl) (by kernel_rfl)
    (by exact ⟨⟨ent Try.func25 rfl rfl, fun w' hw => c_light g⟩, congrArg Value.bool h0, ⟨ent Try.func26 rfl rfl, fun w' hw => c_known17⟩, trivial⟩)
set_option maxRecDepth 100000 in
theorem WindowTells_way_1 {w : World} (s : Sd) (r : Sd) (g : Sg)  {A : Option Addr} {c : Nat} (ok : g.Ok A c w) (wf_g : g.Wf) (wf_s : s.Wf) (wf_r : r.Wf) (hd : g.data.size ≤ 1000000) (hbl : g.blocks.length ≤ 1000000) (h0 : (!(lightF g)) = false) (h1 : (decide (s.win < 0)) = true) : Calls Try.prog 6 #[s.V, r.V, g.V A c] w fun e w' => e = .returned (.bool true) ∧ Below w.heap.size w w' :=
  calls_of_check rfl Try.func6 1000000 [s.V, r.V, g.V A c] [(.call 25 [g.V A c] (.bool (lightF g))),
    (.cast 17 (.bool (!(lightF g))) (.bool false)),
    (.cast 21 (.bool (decide (s.win < 0))) (.bool true)),
    (.call 26 [] (.bool true))] (by kernel_rfl) (by kernel_rfl)
    (by exact ⟨⟨ent Try.func25 rfl rfl, fun w' hw => c_light g⟩, congrArg Value.bool h0, congrArg Value.bool h1, ⟨ent Try.func26 rfl rfl, fun w' hw => c_known17⟩, trivial⟩)
set_option maxRecDepth 100000 in
theorem WindowTells_way_2 {w : World} (s : Sd) (r : Sd) (g : Sg)  {A : Option Addr} {c : Nat} (ok : g.Ok A c w) (wf_g : g.Wf) (wf_s : s.Wf) (wf_r : r.Wf) (hd : g.data.size ≤ 1000000) (hbl : g.blocks.length ≤ 1000000) (h0 : (!(lightF g)) = false) (h1 : (decide (s.win < 0)) = false) (h2 : (decide (s.win > 1099511627776)) = true) : Calls Try.prog 6 #[s.V, r.V, g.V A c] w fun e w' => e = .returned (.bool true) ∧ Below w.heap.size w w' :=
  calls_of_check rfl Try.func6 1000000 [s.V, r.V, g.V A c] [(.call 25 [g.V A c] (.bool (lightF g))),
    (.cast 17 (.bool (!(lightF g))) (.bool false)),
    (.cast 21 (.bool (decide (s.win < 0))) (.bool false)),
    (.cast 26 (.bool (decide (s.win > 1099511627776))) (.bool true)),
    (.call 26 [] (.bool true))] (by kernel_rfl) (by kernel_rfl)
    (by exact ⟨⟨ent Try.func25 rfl rfl, fun w' hw => c_light g⟩, congrArg Value.bool h0, congrArg Value.bool h1, congrArg Value.bool h2, ⟨ent Try.func26 rfl rfl, fun w' hw => c_known17⟩, trivial⟩)
set_option maxRecDepth 100000 in
theorem WindowTells_way_3 {w : World} (s : Sd) (r : Sd) (g : Sg)  {A : Option Addr} {c : Nat} (ok : g.Ok A c w) (wf_g : g.Wf) (wf_s : s.Wf) (wf_r : r.Wf) (hd : g.data.size ≤ 1000000) (hbl : g.blocks.length ≤ 1000000) (h0 : (!(lightF g)) = false) (h1 : (decide (s.win < 0)) = false) (h2 : (decide (s.win > 1099511627776)) = false) (h3 : (decide (s.scale < (-1099511627776))) = true) : Calls Try.prog 6 #[s.V, r.V, g.V A c] w fun e w' => e = .returned (.bool true) ∧ Below w.heap.size w w' :=
  calls_of_check rfl Try.func6 1000000 [s.V, r.V, g.V A c] [(.call 25 [g.V A c] (.bool (lightF g))),
    (.cast 17 (.bool (!(lightF g))) (.bool false)),
    (.cast 21 (.bool (decide (s.win < 0))) (.bool false)),
    (.cast 26 (.bool (decide (s.win > 1099511627776))) (.bool false)),
    (.cast 31 (.bool (decide (s.scale < (-1099511627776)))) (.bool true)),
    (.call 26 [] (.bool true))] (by kernel_rfl) (by kernel_rfl)
    (by exact ⟨⟨ent Try.func25 rfl rfl, fun w' hw => c_light g⟩, congrArg Value.bool h0, congrArg Value.bool h1, congrArg Value.bool h2, congrArg Value.bool h3, ⟨ent Try.func26 rfl rfl, fun w' hw => c_known17⟩, trivial⟩)
set_option maxRecDepth 100000 in
theorem WindowTells_way_4 {w : World} (s : Sd) (r : Sd) (g : Sg)  {A : Option Addr} {c : Nat} (ok : g.Ok A c w) (wf_g : g.Wf) (wf_s : s.Wf) (wf_r : r.Wf) (hd : g.data.size ≤ 1000000) (hbl : g.blocks.length ≤ 1000000) (h0 : (!(lightF g)) = false) (h1 : (decide (s.win < 0)) = false) (h2 : (decide (s.win > 1099511627776)) = false) (h3 : (decide (s.scale < (-1099511627776))) = false) (h4 : (decide (s.scale > 1099511627776)) = true) : Calls Try.prog 6 #[s.V, r.V, g.V A c] w fun e w' => e = .returned (.bool true) ∧ Below w.heap.size w w' :=
  calls_of_check rfl Try.func6 1000000 [s.V, r.V, g.V A c] [(.call 25 [g.V A c] (.bool (lightF g))),
    (.cast 17 (.bool (!(lightF g))) (.bool false)),
    (.cast 21 (.bool (decide (s.win < 0))) (.bool false)),
    (.cast 26 (.bool (decide (s.win > 1099511627776))) (.bool false)),
    (.cast 31 (.bool (decide (s.scale < (-1099511627776)))) (.bool false)),
    (.cast 36 (.bool (decide (s.scale > 1099511627776))) (.bool true)),
    (.call 26 [] (.bool true))] (by kernel_rfl) (by kernel_rfl)
    (by exact ⟨⟨ent Try.func25 rfl rfl, fun w' hw => c_light g⟩, congrArg Value.bool h0, congrArg Value.bool h1, congrArg Value.bool h2, congrArg Value.bool h3, congrArg Value.bool h4, ⟨ent Try.func26 rfl rfl, fun w' hw => c_known17⟩, trivial⟩)
set_option maxRecDepth 100000 in
theorem WindowTells_way_5 {w : World} (s : Sd) (r : Sd) (g : Sg)  {A : Option Addr} {c : Nat} (ok : g.Ok A c w) (wf_g : g.Wf) (wf_s : s.Wf) (wf_r : r.Wf) (hd : g.data.size ≤ 1000000) (hbl : g.blocks.length ≤ 1000000) (h0 : (!(lightF g)) = false) (h1 : (decide (s.win < 0)) = false) (h2 : (decide (s.win > 1099511627776)) = false) (h3 : (decide (s.scale < (-1099511627776))) = false) (h4 : (decide (s.scale > 1099511627776)) = false) (h5 : (Sd.eq (beginF g) (rbeginF g)) = true) (h6 : (Sd.eq ((noteF s r g).1) ((rnoteF s r g).1)) = true) (h7 : (Sd.eq ((noteF s r g).2) ((rnoteF s r g).2)) = true) (h8 : (Sd.eq ((scalesF s r).1) ((rscalesF s r).1)) = true) (h9 : (Sd.eq ((scalesF s r).2) ((rscalesF s r).2)) = true) (h10 : (decide ((showF s : ByteArray) = (rshowF s : ByteArray))) = true) : Calls Try.prog 6 #[s.V, r.V, g.V A c] w fun e w' => e = .returned (.bool true) ∧ Below w.heap.size w w' :=
  calls_of_check rfl Try.func6 1000000 [s.V, r.V, g.V A c] [(.call 25 [g.V A c] (.bool (lightF g))),
    (.cast 17 (.bool (!(lightF g))) (.bool false)),
    (.cast 21 (.bool (decide (s.win < 0))) (.bool false)),
    (.cast 26 (.bool (decide (s.win > 1099511627776))) (.bool false)),
    (.cast 31 (.bool (decide (s.scale < (-1099511627776)))) (.bool false)),
    (.cast 36 (.bool (decide (s.scale > 1099511627776))) (.bool false)),
    (.call 27 [s.V, r.V, g.V A c] (.tuple #[(noteF s r g).1.V, (noteF s r g).2.V])),
    (.sched WindowTells_way_T0 WindowTells_way_B0 [(3, 0), (3, 1), (3, 2), (3, 3), (3, 4), (3, 5), (3, 6), (4, 0), (4, 1), (4, 2), (4, 3), (4, 4), (4, 5), (4, 6), (5, 0), (5, 1), (5, 2), (5, 3), (5, 4), (5, 5), (5, 6), (5, 7), (5, 8), (5, 9), (5, 10), (5, 11), (5, 12), (5, 13), (5, 14)] [] (.s 1 0 (.s 1 2 (.s 1 4 (.three 1 (.three 3 (.three 5 (.s 0 6 (.s 0 7 (.s 0 8 (.two 9 (.s 2 10 (.s 2 11 (.s 2 12 .e))) 10 (.s 2 9 (.s 2 11 (.s 2 12 .e))))))) 9 (.two 5 (.s 0 6 (.s 0 7 (.s 0 8 (.s 2 10 (.s 2 11 (.s 2 12 .e)))))) 10 (.s 2 5 (.s 0 6 (.s 0 7 (.s 0 8 (.s 2 11 (.s 2 12 .e))))))) 10 (.two 5 (.s 0 6 (.s 0 7 (.s 0 8 (.s 2 9 (.s 2 11 (.s 2 12 .e)))))) 9 (.s 2 5 (.s 0 6 (.s 0 7 (.s 0 8 (.s 2 11 (.s 2 12 .e)))))))) 9 (.two 3 (.two 5 (.s 0 6 (.s 0 7 (.s 0 8 (.s 2 10 (.s 2 11 (.s 2 12 .e)))))) 10 (.s 2 5 (.s 0 6 (.s 0 7 (.s 0 8 (.s 2 11 (.s 2 12 .e))))))) 10 (.s 2 3 (.s 2 5 (.s 0 6 (.s 0 7 (.s 0 8 (.s 2 11 (.s 2 12 .e)))))))) 10 (.two 3 (.two 5 (.s 0 6 (.s 0 7 (.s 0 8 (.s 2 9 (.s 2 11 (.s 2 12 .e)))))) 9 (.s 2 5 (.s 0 6 (.s 0 7 (.s 0 8 (.s 2 11 (.s 2 12 .e))))))) 9 (.s 2 3 (.s 2 5 (.s 0 6 (.s 0 7 (.s 0 8 (.s 2 11 (.s 2 12 .e))))))))) 9 (.two 1 (.two 3 (.two 5 (.s 0 6 (.s 0 7 (.s 0 8 (.s 2 10 (.s 2 11 (.s 2 12 .e)))))) 10 (.s 2 5 (.s 0 6 (.s 0 7 (.s 0 8 (.s 2 11 (.s 2 12 .e))))))) 10 (.s 2 3 (.s 2 5 (.s 0 6 (.s 0 7 (.s 0 8 (.s 2 11 (.s 2 12 .e)))))))) 10 (.s 2 1 (.s 2 3 (.s 2 5 (.s 0 6 (.s 0 7 (.s 0 8 (.s 2 11 (.s 2 12 .e))))))))) 10 (.two 1 (.two 3 (.two 5 (.s 0 6 (.s 0 7 (.s 0 8 (.s 2 9 (.s 2 11 (.s 2 12 .e)))))) 9 (.s 2 5 (.s 0 6 (.s 0 7 (.s 0 8 (.s 2 11 (.s 2 12 .e))))))) 9 (.s 2 3 (.s 2 5 (.s 0 6 (.s 0 7 (.s 0 8 (.s 2 11 (.s 2 12 .e)))))))) 9 (.s 2 1 (.s 2 3 (.s 2 5 (.s 0 6 (.s 0 7 (.s 0 8 (.s 2 11 (.s 2 12 .e)))))))))))))),
    (.call 29 [s.V] (s.V)),
    (.call 29 [r.V] (r.V)),
    (.call 28 [s.V, r.V, g.V A c] (.tuple #[(rnoteF s r g).1.V, (rnoteF s r g).2.V])),
    (.call 30 [s.V, r.V] (.tuple #[(scalesF s r).1.V, (scalesF s r).2.V])),
    (.sched WindowTells_way_T1 WindowTells_way_B1 [(3, 0), (3, 1), (3, 2), (3, 3), (3, 4), (3, 5), (3, 6), (4, 0), (4, 1), (4, 2), (4, 3), (4, 4), (4, 5), (4, 6)] [] (.s 1 0 (.s 1 2 (.three 1 (.three 3 (.three 4 (.s 0 5 (.s 0 6 (.s 0 7 (.two 8 (.s 2 9 (.s 2 10 (.s 2 11 .e))) 9 (.s 2 8 (.s 2 10 (.s 2 11 .e))))))) 8 (.two 4 (.s 0 5 (.s 0 6 (.s 0 7 (.s 2 9 (.s 2 10 (.s 2 11 .e)))))) 9 (.s 2 4 (.s 0 5 (.s 0 6 (.s 0 7 (.s 2 10 (.s 2 11 .e))))))) 9 (.two 4 (.s 0 5 (.s 0 6 (.s 0 7 (.s 2 8 (.s 2 10 (.s 2 11 .e)))))) 8 (.s 2 4 (.s 0 5 (.s 0 6 (.s 0 7 (.s 2 10 (.s 2 11 .e)))))))) 8 (.two 3 (.two 4 (.s 0 5 (.s 0 6 (.s 0 7 (.s 2 9 (.s 2 10 (.s 2 11 .e)))))) 9 (.s 2 4 (.s 0 5 (.s 0 6 (.s 0 7 (.s 2 10 (.s 2 11 .e))))))) 9 (.s 2 3 (.s 2 4 (.s 0 5 (.s 0 6 (.s 0 7 (.s 2 10 (.s 2 11 .e)))))))) 9 (.two 3 (.two 4 (.s 0 5 (.s 0 6 (.s 0 7 (.s 2 8 (.s 2 10 (.s 2 11 .e)))))) 8 (.s 2 4 (.s 0 5 (.s 0 6 (.s 0 7 (.s 2 10 (.s 2 11 .e))))))) 8 (.s 2 3 (.s 2 4 (.s 0 5 (.s 0 6 (.s 0 7 (.s 2 10 (.s 2 11 .e))))))))) 8 (.two 1 (.two 3 (.two 4 (.s 0 5 (.s 0 6 (.s 0 7 (.s 2 9 (.s 2 10 (.s 2 11 .e)))))) 9 (.s 2 4 (.s 0 5 (.s 0 6 (.s 0 7 (.s 2 10 (.s 2 11 .e))))))) 9 (.s 2 3 (.s 2 4 (.s 0 5 (.s 0 6 (.s 0 7 (.s 2 10 (.s 2 11 .e)))))))) 9 (.s 2 1 (.s 2 3 (.s 2 4 (.s 0 5 (.s 0 6 (.s 0 7 (.s 2 10 (.s 2 11 .e))))))))) 9 (.two 1 (.two 3 (.two 4 (.s 0 5 (.s 0 6 (.s 0 7 (.s 2 8 (.s 2 10 (.s 2 11 .e)))))) 8 (.s 2 4 (.s 0 5 (.s 0 6 (.s 0 7 (.s 2 10 (.s 2 11 .e))))))) 8 (.s 2 3 (.s 2 4 (.s 0 5 (.s 0 6 (.s 0 7 (.s 2 10 (.s 2 11 .e)))))))) 8 (.s 2 1 (.s 2 3 (.s 2 4 (.s 0 5 (.s 0 6 (.s 0 7 (.s 2 10 (.s 2 11 .e))))))))))))),
    (.call 29 [s.V] (s.V)),
    (.call 29 [r.V] (r.V)),
    (.call 31 [s.V, r.V] (.tuple #[(rscalesF s r).1.V, (rscalesF s r).2.V])),
    (.sched WindowTells_way_T2 WindowTells_way_B2 [(3, 0), (3, 1), (3, 2), (3, 3), (3, 4), (3, 5), (3, 6), (5, 0), (5, 1), (5, 2), (5, 3), (5, 4), (5, 5), (5, 6), (5, 7), (5, 8), (5, 9), (5, 10), (5, 11), (5, 12), (5, 13), (5, 14), (7, 0), (7, 1), (7, 2), (7, 3), (7, 4), (7, 5), (7, 6), (8, 0), (8, 1), (8, 2), (8, 3), (8, 4), (8, 5), (8, 6), (9, 0), (9, 1), (9, 2), (9, 3), (9, 4), (9, 5), (9, 6), (10, 0), (10, 1), (10, 2), (10, 3), (10, 4), (10, 5), (10, 6), (11, 0), (11, 1), (11, 2), (11, 3), (11, 4), (11, 5), (11, 6), (12, 0), (12, 1), (12, 2), (12, 3), (12, 4), (12, 5), (12, 6), (13, 0), (13, 1), (13, 2), (13, 3), (13, 4), (13, 5), (13, 6), (14, 0), (14, 1), (14, 2), (14, 3), (14, 4), (14, 5), (14, 6)] [] (.s 1 0 (.s 1 3 (.s 2 1 (.s 2 2 (.s 2 4 (.s 1 5 (.s 0 6 (.s 1 7 (.s 1 9 (.s 2 8 (.s 1 10 (.s 0 11 (.s 0 12 (.s 1 13 (.s 1 15 (.s 2 14 (.s 1 16 (.s 0 17 (.s 0 18 (.s 1 19 (.s 1 21 (.s 2 20 (.s 1 22 (.s 0 23 (.s 0 24 (.s 1 25 (.s 1 27 (.s 2 26 (.s 1 28 (.s 0 29 (.s 0 30 (.s 1 31 (.s 1 33 (.s 2 32 (.s 2 34 (.s 2 35 (.s 1 36 (.s 0 37 (.s 0 38 (.s 2 39 (.s 0 40 (.s 0 41 .e))))))))))))))))))))))))))))))))))))))))))),
    (.call 32 [g.V A c] ((beginF g).V)),
    (.call 29 [(beginF g).V] ((beginF g).V)),
    (.call 33 [g.V A c] ((rbeginF g).V)),
    (.orc 74 (.binOp .eql 34 (.const ((beginF g).V)) (.const ((rbeginF g).V)) 34) (.bool true)),
    (.call 29 [(noteF s r g).1.V] ((noteF s r g).1.V)),
    (.orc 79 (.binOp .eql 34 (.const ((noteF s r g).1.V)) (.const ((rnoteF s r g).1.V)) 34) (.bool true)),
    (.call 29 [(noteF s r g).2.V] ((noteF s r g).2.V)),
    (.orc 85 (.binOp .eql 34 (.const ((noteF s r g).2.V)) (.const ((rnoteF s r g).2.V)) 34) (.bool true)),
    (.call 29 [(scalesF s r).1.V] ((scalesF s r).1.V)),
    (.orc 91 (.binOp .eql 34 (.const ((scalesF s r).1.V)) (.const ((rscalesF s r).1.V)) 34) (.bool true)),
    (.call 29 [(scalesF s r).2.V] ((scalesF s r).2.V)),
    (.orc 97 (.binOp .eql 34 (.const ((scalesF s r).2.V)) (.const ((rscalesF s r).2.V)) 34) (.bool true)),
    (.call 34 [s.V] (.string (showF s))),
    (.call 29 [s.V] (s.V)),
    (.call 35 [s.V] (.string (rshowF s))),
    (.orc 105 (.binOp .eql 9 (.const (.string (showF s))) (.const (.string (rshowF s))) 9) (.bool true)),
    (.call 26 [] (.bool true))] (by kernel_rfl) (by kernel_rfl)
    (by exact ⟨⟨ent Try.func25 rfl rfl, fun w' hw => c_light g⟩, congrArg Value.bool h0, congrArg Value.bool h1, congrArg Value.bool h2, congrArg Value.bool h3, congrArg Value.bool h4, ⟨ent Try.func27 rfl rfl, fun w' hw => c_note s r g (ok.keep hw) hd⟩, trivial, ⟨ent Try.func29 rfl rfl, fun w' hw => c_plain17 s⟩, ⟨ent Try.func29 rfl rfl, fun w' hw => c_plain17 r⟩, ⟨ent Try.func28 rfl rfl, fun w' hw => c_rnote s r g (ok.keep hw) hd hbl wf_s wf_r wf_g⟩, ⟨ent Try.func30 rfl rfl, fun w' hw => c_scales s r⟩, trivial, ⟨ent Try.func29 rfl rfl, fun w' hw => c_plain17 s⟩, ⟨ent Try.func29 rfl rfl, fun w' hw => c_plain17 r⟩, ⟨ent Try.func31 rfl rfl, fun w' hw => c_rscales s r⟩, trivial, ⟨ent Try.func32 rfl rfl, fun w' hw => c_begin g (ok.keep hw) hd⟩, ⟨ent Try.func29 rfl rfl, fun w' hw => c_plain17 (beginF g)⟩, ⟨ent Try.func33 rfl rfl, fun w' hw => c_rbegin g (ok.keep hw) hd wf_g⟩, orc_eq (congrArg Value.bool h5) (orc_eql (by kernel_rfl) (eq34 (beginF g) (rbeginF g))), ⟨ent Try.func29 rfl rfl, fun w' hw => c_plain17 ((noteF s r g).1)⟩, orc_eq (congrArg Value.bool h6) (orc_eql (by kernel_rfl) (eq34 ((noteF s r g).1) ((rnoteF s r g).1))), ⟨ent Try.func29 rfl rfl, fun w' hw => c_plain17 ((noteF s r g).2)⟩, orc_eq (congrArg Value.bool h7) (orc_eql (by kernel_rfl) (eq34 ((noteF s r g).2) ((rnoteF s r g).2))), ⟨ent Try.func29 rfl rfl, fun w' hw => c_plain17 ((scalesF s r).1)⟩, orc_eq (congrArg Value.bool h8) (orc_eql (by kernel_rfl) (eq34 ((scalesF s r).1) ((rscalesF s r).1))), ⟨ent Try.func29 rfl rfl, fun w' hw => c_plain17 ((scalesF s r).2)⟩, orc_eq (congrArg Value.bool h9) (orc_eql (by kernel_rfl) (eq34 ((scalesF s r).2) ((rscalesF s r).2))), ⟨ent Try.func34 rfl rfl, fun w' hw => c_show s wf_s (by have := of_decide_eq_false h1; omega) (by have := of_decide_eq_false h2; omega) (by have := of_decide_eq_false h3; omega) (by have := of_decide_eq_false h4; omega)⟩, ⟨ent Try.func29 rfl rfl, fun w' hw => c_plain17 s⟩, ⟨ent Try.func35 rfl rfl, fun w' hw => c_rshow s wf_s (by have := of_decide_eq_false h1; omega) (by have := of_decide_eq_false h2; omega) (by have := of_decide_eq_false h3; omega) (by have := of_decide_eq_false h4; omega)⟩, orc_eq (congrArg Value.bool h10) (orc_seql), ⟨ent Try.func26 rfl rfl, fun w' hw => c_known17⟩, trivial⟩)
theorem WindowTells {w : World} (s : Sd) (r : Sd) (g : Sg)  {A : Option Addr} {c : Nat} (ok : g.Ok A c w) (wf_g : g.Wf) (wf_s : s.Wf) (wf_r : r.Wf) : Calls Try.prog 6 #[s.V, r.V, g.V A c] w fun e w' => e = .returned (.bool true) ∧ Below w.heap.size w w' := by
  cases h0 : (!(lightF g)) with
  | true =>
    exact WindowTells_way_0 s r g ok wf_g wf_s wf_r h0
  | false =>
    have hl := (light_iff g).1 (by simpa using h0)
    have hd : g.data.size ≤ 1000000 := by omega
    have hbl : g.blocks.length ≤ 1000000 := by omega
    cases h1 : (decide (s.win < 0)) with
    | true =>
      exact WindowTells_way_1 s r g ok wf_g wf_s wf_r hd hbl h0 h1
    | false =>
      cases h2 : (decide (s.win > 1099511627776)) with
      | true =>
        exact WindowTells_way_2 s r g ok wf_g wf_s wf_r hd hbl h0 h1 h2
      | false =>
        cases h3 : (decide (s.scale < (-1099511627776))) with
        | true =>
          exact WindowTells_way_3 s r g ok wf_g wf_s wf_r hd hbl h0 h1 h2 h3
        | false =>
          cases h4 : (decide (s.scale > 1099511627776)) with
          | true =>
            exact WindowTells_way_4 s r g ok wf_g wf_s wf_r hd hbl h0 h1 h2 h3 h4
          | false =>
            have h5 : (Sd.eq (beginF g) (rbeginF g)) = true := by
              rw [rbegin_eq]
              exact (Sd.eq_iff _ _).2 rfl
            have h6 : (Sd.eq ((noteF s r g).1) ((rnoteF s r g).1)) = true := by
              rw [rnote_eq]
              exact (Sd.eq_iff _ _).2 rfl
            have h7 : (Sd.eq ((noteF s r g).2) ((rnoteF s r g).2)) = true := by
              rw [rnote_eq]
              exact (Sd.eq_iff _ _).2 rfl
            have h8 : (Sd.eq ((scalesF s r).1) ((rscalesF s r).1)) = true := by
              exact (Sd.eq_iff _ _).2 rfl
            have h9 : (Sd.eq ((scalesF s r).2) ((rscalesF s r).2)) = true := by
              exact (Sd.eq_iff _ _).2 rfl
            have h10 : (decide ((showF s : ByteArray) = (rshowF s : ByteArray))) = true := by
              exact decide_eq_true (show_eq s).symm
            exact WindowTells_way_5 s r g ok wf_g wf_s wf_r hd hbl h0 h1 h2 h3 h4 h5 h6 h7 h8 h9 h10
theorem WindowTells_row {w : World} (s : Sd) (wf_s : s.Wf) (r : Sd) (wf_r : r.Wf) (g : Sg) (A : Option Addr) (c : Nat) (ok : g.Ok A c w) (wf_g : g.Wf) : Calls Try.prog 6 #[s.V, r.V, g.V A c] w fun e w' => e = .returned (.bool true) ∧ Below w.heap.size w w' := WindowTells s r g ok wf_g wf_s wf_r
set_option maxRecDepth 100000 in
theorem WindowShift_way_0 {w : World} (s : Sd) (r : Sd) (g : Sg) (x : Int) (y : Int)  {A : Option Addr} {c : Nat} (ok : g.Ok A c w) (wf_g : g.Wf) (wf_s : s.Wf) (wf_r : r.Wf) (h0 : (!(lightF g)) = true) : Calls Try.prog 10 #[.agg #[.bool s.on, .int .u32 s.fin, .int .u32 s.max, .int .u32 s.ack, .bool s.has, .int .i64 s.win, .int .i64 s.scale, .bool r.on, .int .u32 r.fin, .int .u32 r.max, .int .u32 r.ack, .bool r.has, .int .i64 r.win, .int .i64 r.scale], g.V A c, .agg #[.int .u32 x, .int .u32 y]] w fun e w' => e = .returned (.bool true) ∧ Below w.heap.size w w' :=
  calls_of_check rfl Try.func10 1000000 [.agg #[.bool s.on, .int .u32 s.fin, .int .u32 s.max, .int .u32 s.ack, .bool s.has, .int .i64 s.win, .int .i64 s.scale, .bool r.on, .int .u32 r.fin, .int .u32 r.max, .int .u32 r.ack, .bool r.has, .int .i64 r.win, .int .i64 r.scale], g.V A c, .agg #[.int .u32 x, .int .u32 y]] [(.call 25 [g.V A c] (.bool (lightF g))),
    (.cast 22 (.bool (!(lightF g))) (.bool true)),
    (.call 26 [] (.bool true))] (by kernel_rfl) (by kernel_rfl)
    (by exact ⟨⟨ent Try.func25 rfl rfl, fun w' hw => c_light g⟩, congrArg Value.bool h0, ⟨ent Try.func26 rfl rfl, fun w' hw => c_known17⟩, trivial⟩)
set_option maxRecDepth 100000 in
theorem WindowShift_way_1 {w : World} (s : Sd) (r : Sd) (g : Sg) (x : Int) (y : Int)  {A : Option Addr} {c : Nat} (ok : g.Ok A c w) (wf_g : g.Wf) (wf_s : s.Wf) (wf_r : r.Wf) (hd : g.data.size ≤ 1000000) (hbl : g.blocks.length ≤ 1000000) (h0 : (!(lightF g)) = false) (h1 : (decide ((g.blocks.length : Int) > 0)) = true) : Calls Try.prog 10 #[.agg #[.bool s.on, .int .u32 s.fin, .int .u32 s.max, .int .u32 s.ack, .bool s.has, .int .i64 s.win, .int .i64 s.scale, .bool r.on, .int .u32 r.fin, .int .u32 r.max, .int .u32 r.ack, .bool r.has, .int .i64 r.win, .int .i64 r.scale], g.V A c, .agg #[.int .u32 x, .int .u32 y]] w fun e w' => e = .returned (.bool true) ∧ Below w.heap.size w w' :=
  calls_of_check rfl Try.func10 1000000 [.agg #[.bool s.on, .int .u32 s.fin, .int .u32 s.max, .int .u32 s.ack, .bool s.has, .int .i64 s.win, .int .i64 s.scale, .bool r.on, .int .u32 r.fin, .int .u32 r.max, .int .u32 r.ack, .bool r.has, .int .i64 r.win, .int .i64 r.scale], g.V A c, .agg #[.int .u32 x, .int .u32 y]] [(.call 25 [g.V A c] (.bool (lightF g))),
    (.cast 22 (.bool (!(lightF g))) (.bool false)),
    (.cast 28 (.bool (decide ((g.blocks.length : Int) > 0))) (.bool true)),
    (.call 26 [] (.bool true))] (by kernel_rfl) (by kernel_rfl)
    (by exact ⟨⟨ent Try.func25 rfl rfl, fun w' hw => c_light g⟩, congrArg Value.bool h0, congrArg Value.bool h1, ⟨ent Try.func26 rfl rfl, fun w' hw => c_known17⟩, trivial⟩)
set_option maxRecDepth 100000 in
theorem WindowShift_way_2 {w : World} (s : Sd) (r : Sd) (g : Sg) (x : Int) (y : Int)  {A : Option Addr} {c : Nat} (ok : g.Ok A c w) (wf_g : g.Wf) (wf_s : s.Wf) (wf_r : r.Wf) (hd : g.data.size ≤ 1000000) (hbl : g.blocks.length ≤ 1000000) (h0 : (!(lightF g)) = false) (h1 : (decide ((g.blocks.length : Int) > 0)) = false) (h2 : (decide (s.scale < 0)) = true) : Calls Try.prog 10 #[.agg #[.bool s.on, .int .u32 s.fin, .int .u32 s.max, .int .u32 s.ack, .bool s.has, .int .i64 s.win, .int .i64 s.scale, .bool r.on, .int .u32 r.fin, .int .u32 r.max, .int .u32 r.ack, .bool r.has, .int .i64 r.win, .int .i64 r.scale], g.V A c, .agg #[.int .u32 x, .int .u32 y]] w fun e w' => e = .returned (.bool true) ∧ Below w.heap.size w w' :=
  calls_of_check rfl Try.func10 1000000 [.agg #[.bool s.on, .int .u32 s.fin, .int .u32 s.max, .int .u32 s.ack, .bool s.has, .int .i64 s.win, .int .i64 s.scale, .bool r.on, .int .u32 r.fin, .int .u32 r.max, .int .u32 r.ack, .bool r.has, .int .i64 r.win, .int .i64 r.scale], g.V A c, .agg #[.int .u32 x, .int .u32 y]] [(.call 25 [g.V A c] (.bool (lightF g))),
    (.cast 22 (.bool (!(lightF g))) (.bool false)),
    (.cast 28 (.bool (decide ((g.blocks.length : Int) > 0))) (.bool false)),
    (.cast 33 (.bool (decide (s.scale < 0))) (.bool true)),
    (.call 26 [] (.bool true))] (by kernel_rfl) (by kernel_rfl)
    (by exact ⟨⟨ent Try.func25 rfl rfl, fun w' hw => c_light g⟩, congrArg Value.bool h0, congrArg Value.bool h1, congrArg Value.bool h2, ⟨ent Try.func26 rfl rfl, fun w' hw => c_known17⟩, trivial⟩)
set_option maxRecDepth 100000 in
theorem WindowShift_way_3 {w : World} (s : Sd) (r : Sd) (g : Sg) (x : Int) (y : Int)  {A : Option Addr} {c : Nat} (ok : g.Ok A c w) (wf_g : g.Wf) (wf_s : s.Wf) (wf_r : r.Wf) (hd : g.data.size ≤ 1000000) (hbl : g.blocks.length ≤ 1000000) (h0 : (!(lightF g)) = false) (h1 : (decide ((g.blocks.length : Int) > 0)) = false) (h2 : (decide (s.scale < 0)) = false) (h3 : (decide (s.scale > 14)) = true) : Calls Try.prog 10 #[.agg #[.bool s.on, .int .u32 s.fin, .int .u32 s.max, .int .u32 s.ack, .bool s.has, .int .i64 s.win, .int .i64 s.scale, .bool r.on, .int .u32 r.fin, .int .u32 r.max, .int .u32 r.ack, .bool r.has, .int .i64 r.win, .int .i64 r.scale], g.V A c, .agg #[.int .u32 x, .int .u32 y]] w fun e w' => e = .returned (.bool true) ∧ Below w.heap.size w w' :=
  calls_of_check rfl Try.func10 1000000 [.agg #[.bool s.on, .int .u32 s.fin, .int .u32 s.max, .int .u32 s.ack, .bool s.has, .int .i64 s.win, .int .i64 s.scale, .bool r.on, .int .u32 r.fin, .int .u32 r.max, .int .u32 r.ack, .bool r.has, .int .i64 r.win, .int .i64 r.scale], g.V A c, .agg #[.int .u32 x, .int .u32 y]] [(.call 25 [g.V A c] (.bool (lightF g))),
    (.cast 22 (.bool (!(lightF g))) (.bool false)),
    (.cast 28 (.bool (decide ((g.blocks.length : Int) > 0))) (.bool false)),
    (.cast 33 (.bool (decide (s.scale < 0))) (.bool false)),
    (.cast 38 (.bool (decide (s.scale > 14))) (.bool true)),
    (.call 26 [] (.bool true))] (by kernel_rfl) (by kernel_rfl)
    (by exact ⟨⟨ent Try.func25 rfl rfl, fun w' hw => c_light g⟩, congrArg Value.bool h0, congrArg Value.bool h1, congrArg Value.bool h2, congrArg Value.bool h3, ⟨ent Try.func26 rfl rfl, fun w' hw => c_known17⟩, trivial⟩)
set_option maxRecDepth 100000 in
theorem WindowShift_way_4 {w : World} (s : Sd) (r : Sd) (g : Sg) (x : Int) (y : Int)  {A : Option Addr} {c : Nat} (ok : g.Ok A c w) (wf_g : g.Wf) (wf_s : s.Wf) (wf_r : r.Wf) (hd : g.data.size ≤ 1000000) (hbl : g.blocks.length ≤ 1000000) (h0 : (!(lightF g)) = false) (h1 : (decide ((g.blocks.length : Int) > 0)) = false) (h2 : (decide (s.scale < 0)) = false) (h3 : (decide (s.scale > 14)) = false) (h4 : (((noteF ({ s with fin := IntKind.u32.wrap (s.fin + x), max := IntKind.u32.wrap (s.max + x), ack := IntKind.u32.wrap (s.ack + y) }) ({ r with fin := IntKind.u32.wrap (r.fin + y), max := IntKind.u32.wrap (r.max + y), ack := IntKind.u32.wrap (r.ack + x) }) ({ g with seq := IntKind.u32.wrap (g.seq + x), ack := IntKind.u32.wrap (g.ack + y) })).1.fin) == (IntKind.u32.wrap (((noteF s r g).1.fin) + x))) = true) (h5 : (((noteF ({ s with fin := IntKind.u32.wrap (s.fin + x), max := IntKind.u32.wrap (s.max + x), ack := IntKind.u32.wrap (s.ack + y) }) ({ r with fin := IntKind.u32.wrap (r.fin + y), max := IntKind.u32.wrap (r.max + y), ack := IntKind.u32.wrap (r.ack + x) }) ({ g with seq := IntKind.u32.wrap (g.seq + x), ack := IntKind.u32.wrap (g.ack + y) })).1.max) == (IntKind.u32.wrap (((noteF s r g).1.max) + x))) = true) (h6 : (((noteF ({ s with fin := IntKind.u32.wrap (s.fin + x), max := IntKind.u32.wrap (s.max + x), ack := IntKind.u32.wrap (s.ack + y) }) ({ r with fin := IntKind.u32.wrap (r.fin + y), max := IntKind.u32.wrap (r.max + y), ack := IntKind.u32.wrap (r.ack + x) }) ({ g with seq := IntKind.u32.wrap (g.seq + x), ack := IntKind.u32.wrap (g.ack + y) })).1.ack) == (IntKind.u32.wrap (((noteF s r g).1.ack) + y))) = true) (h7 : (((noteF ({ s with fin := IntKind.u32.wrap (s.fin + x), max := IntKind.u32.wrap (s.max + x), ack := IntKind.u32.wrap (s.ack + y) }) ({ r with fin := IntKind.u32.wrap (r.fin + y), max := IntKind.u32.wrap (r.max + y), ack := IntKind.u32.wrap (r.ack + x) }) ({ g with seq := IntKind.u32.wrap (g.seq + x), ack := IntKind.u32.wrap (g.ack + y) })).1.win) == ((noteF s r g).1.win)) = true) (h8 : (((noteF ({ s with fin := IntKind.u32.wrap (s.fin + x), max := IntKind.u32.wrap (s.max + x), ack := IntKind.u32.wrap (s.ack + y) }) ({ r with fin := IntKind.u32.wrap (r.fin + y), max := IntKind.u32.wrap (r.max + y), ack := IntKind.u32.wrap (r.ack + x) }) ({ g with seq := IntKind.u32.wrap (g.seq + x), ack := IntKind.u32.wrap (g.ack + y) })).2.fin) == (IntKind.u32.wrap (((noteF s r g).2.fin) + y))) = true) (h9 : (((noteF ({ s with fin := IntKind.u32.wrap (s.fin + x), max := IntKind.u32.wrap (s.max + x), ack := IntKind.u32.wrap (s.ack + y) }) ({ r with fin := IntKind.u32.wrap (r.fin + y), max := IntKind.u32.wrap (r.max + y), ack := IntKind.u32.wrap (r.ack + x) }) ({ g with seq := IntKind.u32.wrap (g.seq + x), ack := IntKind.u32.wrap (g.ack + y) })).2.max) == (IntKind.u32.wrap (((noteF s r g).2.max) + y))) = true) (h10 : (((noteF ({ s with fin := IntKind.u32.wrap (s.fin + x), max := IntKind.u32.wrap (s.max + x), ack := IntKind.u32.wrap (s.ack + y) }) ({ r with fin := IntKind.u32.wrap (r.fin + y), max := IntKind.u32.wrap (r.max + y), ack := IntKind.u32.wrap (r.ack + x) }) ({ g with seq := IntKind.u32.wrap (g.seq + x), ack := IntKind.u32.wrap (g.ack + y) })).2.ack) == (IntKind.u32.wrap (((noteF s r g).2.ack) + x))) = true) : Calls Try.prog 10 #[.agg #[.bool s.on, .int .u32 s.fin, .int .u32 s.max, .int .u32 s.ack, .bool s.has, .int .i64 s.win, .int .i64 s.scale, .bool r.on, .int .u32 r.fin, .int .u32 r.max, .int .u32 r.ack, .bool r.has, .int .i64 r.win, .int .i64 r.scale], g.V A c, .agg #[.int .u32 x, .int .u32 y]] w fun e w' => e = .returned (.bool true) ∧ Below w.heap.size w w' :=
  calls_of_check rfl Try.func10 1000000 [.agg #[.bool s.on, .int .u32 s.fin, .int .u32 s.max, .int .u32 s.ack, .bool s.has, .int .i64 s.win, .int .i64 s.scale, .bool r.on, .int .u32 r.fin, .int .u32 r.max, .int .u32 r.ack, .bool r.has, .int .i64 r.win, .int .i64 r.scale], g.V A c, .agg #[.int .u32 x, .int .u32 y]] [(.call 25 [g.V A c] (.bool (lightF g))),
    (.cast 22 (.bool (!(lightF g))) (.bool false)),
    (.cast 28 (.bool (decide ((g.blocks.length : Int) > 0))) (.bool false)),
    (.cast 33 (.bool (decide (s.scale < 0))) (.bool false)),
    (.cast 38 (.bool (decide (s.scale > 14))) (.bool false)),
    (.call 27 [s.V, r.V, g.V A c] (.tuple #[(noteF s r g).1.V, (noteF s r g).2.V])),
    (.call 27 [.agg #[.bool s.on, .int .u32 (IntKind.u32.wrap (s.fin + x)), .int .u32 (IntKind.u32.wrap (s.max + x)), .int .u32 (IntKind.u32.wrap (s.ack + y)), .bool s.has, .int .i64 s.win, .int .i64 s.scale], .agg #[.bool r.on, .int .u32 (IntKind.u32.wrap (r.fin + y)), .int .u32 (IntKind.u32.wrap (r.max + y)), .int .u32 (IntKind.u32.wrap (r.ack + x)), .bool r.has, .int .i64 r.win, .int .i64 r.scale], .agg #[.int .i64 g.src, .int .i64 g.dst, .int .u32 (IntKind.u32.wrap (g.seq + x)), .int .u32 (IntKind.u32.wrap (g.ack + y)), .int .i64 g.flags, .int .i64 g.win, .int .i64 g.urg, .int .i64 g.mss, .int .i64 g.scale, .bool g.sack, .slice A g.blocks.length c, .bool g.timed, .int .u32 g.time, .int .u32 g.echo, .string g.data]] (.tuple #[(noteF ({ s with fin := IntKind.u32.wrap (s.fin + x), max := IntKind.u32.wrap (s.max + x), ack := IntKind.u32.wrap (s.ack + y) }) ({ r with fin := IntKind.u32.wrap (r.fin + y), max := IntKind.u32.wrap (r.max + y), ack := IntKind.u32.wrap (r.ack + x) }) ({ g with seq := IntKind.u32.wrap (g.seq + x), ack := IntKind.u32.wrap (g.ack + y) })).1.V, (noteF ({ s with fin := IntKind.u32.wrap (s.fin + x), max := IntKind.u32.wrap (s.max + x), ack := IntKind.u32.wrap (s.ack + y) }) ({ r with fin := IntKind.u32.wrap (r.fin + y), max := IntKind.u32.wrap (r.max + y), ack := IntKind.u32.wrap (r.ack + x) }) ({ g with seq := IntKind.u32.wrap (g.seq + x), ack := IntKind.u32.wrap (g.ack + y) })).2.V])),
    (.cast 113 (.bool (((noteF ({ s with fin := IntKind.u32.wrap (s.fin + x), max := IntKind.u32.wrap (s.max + x), ack := IntKind.u32.wrap (s.ack + y) }) ({ r with fin := IntKind.u32.wrap (r.fin + y), max := IntKind.u32.wrap (r.max + y), ack := IntKind.u32.wrap (r.ack + x) }) ({ g with seq := IntKind.u32.wrap (g.seq + x), ack := IntKind.u32.wrap (g.ack + y) })).1.fin) == (IntKind.u32.wrap (((noteF s r g).1.fin) + x)))) (.bool true)),
    (.cast 122 (.bool (((noteF ({ s with fin := IntKind.u32.wrap (s.fin + x), max := IntKind.u32.wrap (s.max + x), ack := IntKind.u32.wrap (s.ack + y) }) ({ r with fin := IntKind.u32.wrap (r.fin + y), max := IntKind.u32.wrap (r.max + y), ack := IntKind.u32.wrap (r.ack + x) }) ({ g with seq := IntKind.u32.wrap (g.seq + x), ack := IntKind.u32.wrap (g.ack + y) })).1.max) == (IntKind.u32.wrap (((noteF s r g).1.max) + x)))) (.bool true)),
    (.cast 132 (.bool (((noteF ({ s with fin := IntKind.u32.wrap (s.fin + x), max := IntKind.u32.wrap (s.max + x), ack := IntKind.u32.wrap (s.ack + y) }) ({ r with fin := IntKind.u32.wrap (r.fin + y), max := IntKind.u32.wrap (r.max + y), ack := IntKind.u32.wrap (r.ack + x) }) ({ g with seq := IntKind.u32.wrap (g.seq + x), ack := IntKind.u32.wrap (g.ack + y) })).1.ack) == (IntKind.u32.wrap (((noteF s r g).1.ack) + y)))) (.bool true)),
    (.cast 139 (.bool (((noteF ({ s with fin := IntKind.u32.wrap (s.fin + x), max := IntKind.u32.wrap (s.max + x), ack := IntKind.u32.wrap (s.ack + y) }) ({ r with fin := IntKind.u32.wrap (r.fin + y), max := IntKind.u32.wrap (r.max + y), ack := IntKind.u32.wrap (r.ack + x) }) ({ g with seq := IntKind.u32.wrap (g.seq + x), ack := IntKind.u32.wrap (g.ack + y) })).1.win) == ((noteF s r g).1.win))) (.bool true)),
    (.cast 149 (.bool (((noteF ({ s with fin := IntKind.u32.wrap (s.fin + x), max := IntKind.u32.wrap (s.max + x), ack := IntKind.u32.wrap (s.ack + y) }) ({ r with fin := IntKind.u32.wrap (r.fin + y), max := IntKind.u32.wrap (r.max + y), ack := IntKind.u32.wrap (r.ack + x) }) ({ g with seq := IntKind.u32.wrap (g.seq + x), ack := IntKind.u32.wrap (g.ack + y) })).2.fin) == (IntKind.u32.wrap (((noteF s r g).2.fin) + y)))) (.bool true)),
    (.cast 159 (.bool (((noteF ({ s with fin := IntKind.u32.wrap (s.fin + x), max := IntKind.u32.wrap (s.max + x), ack := IntKind.u32.wrap (s.ack + y) }) ({ r with fin := IntKind.u32.wrap (r.fin + y), max := IntKind.u32.wrap (r.max + y), ack := IntKind.u32.wrap (r.ack + x) }) ({ g with seq := IntKind.u32.wrap (g.seq + x), ack := IntKind.u32.wrap (g.ack + y) })).2.max) == (IntKind.u32.wrap (((noteF s r g).2.max) + y)))) (.bool true)),
    (.cast 169 (.bool (((noteF ({ s with fin := IntKind.u32.wrap (s.fin + x), max := IntKind.u32.wrap (s.max + x), ack := IntKind.u32.wrap (s.ack + y) }) ({ r with fin := IntKind.u32.wrap (r.fin + y), max := IntKind.u32.wrap (r.max + y), ack := IntKind.u32.wrap (r.ack + x) }) ({ g with seq := IntKind.u32.wrap (g.seq + x), ack := IntKind.u32.wrap (g.ack + y) })).2.ack) == (IntKind.u32.wrap (((noteF s r g).2.ack) + x)))) (.bool true)),
    (.call 26 [] (.bool true))] (by kernel_rfl) (by kernel_rfl)
    (by exact ⟨⟨ent Try.func25 rfl rfl, fun w' hw => c_light g⟩, congrArg Value.bool h0, congrArg Value.bool h1, congrArg Value.bool h2, congrArg Value.bool h3, ⟨ent Try.func27 rfl rfl, fun w' hw => c_note s r g (ok.keep hw) hd⟩, ⟨ent Try.func27 rfl rfl, fun w' hw => c_note ({ s with fin := IntKind.u32.wrap (s.fin + x), max := IntKind.u32.wrap (s.max + x), ack := IntKind.u32.wrap (s.ack + y) }) ({ r with fin := IntKind.u32.wrap (r.fin + y), max := IntKind.u32.wrap (r.max + y), ack := IntKind.u32.wrap (r.ack + x) }) ({ g with seq := IntKind.u32.wrap (g.seq + x), ack := IntKind.u32.wrap (g.ack + y) }) (ok.keep hw) hd⟩, congrArg Value.bool h4, congrArg Value.bool h5, congrArg Value.bool h6, congrArg Value.bool h7, congrArg Value.bool h8, congrArg Value.bool h9, congrArg Value.bool h10, ⟨ent Try.func26 rfl rfl, fun w' hw => c_known17⟩, trivial⟩)
theorem WindowShift {w : World} (s : Sd) (r : Sd) (g : Sg) (x : Int) (y : Int)  {A : Option Addr} {c : Nat} (ok : g.Ok A c w) (wf_g : g.Wf) (wf_s : s.Wf) (wf_r : r.Wf) : Calls Try.prog 10 #[.agg #[.bool s.on, .int .u32 s.fin, .int .u32 s.max, .int .u32 s.ack, .bool s.has, .int .i64 s.win, .int .i64 s.scale, .bool r.on, .int .u32 r.fin, .int .u32 r.max, .int .u32 r.ack, .bool r.has, .int .i64 r.win, .int .i64 r.scale], g.V A c, .agg #[.int .u32 x, .int .u32 y]] w fun e w' => e = .returned (.bool true) ∧ Below w.heap.size w w' := by
  cases h0 : (!(lightF g)) with
  | true =>
    exact WindowShift_way_0 s r g x y ok wf_g wf_s wf_r h0
  | false =>
    have hl := (light_iff g).1 (by simpa using h0)
    have hd : g.data.size ≤ 1000000 := by omega
    have hbl : g.blocks.length ≤ 1000000 := by omega
    cases h1 : (decide ((g.blocks.length : Int) > 0)) with
    | true =>
      exact WindowShift_way_1 s r g x y ok wf_g wf_s wf_r hd hbl h0 h1
    | false =>
      have hnb : g.blocks = [] := by
        have := of_decide_eq_false h1
        cases hq : g.blocks with
        | nil => rfl
        | cons a l => rw [hq] at this; simp at this
      cases h2 : (decide (s.scale < 0)) with
      | true =>
        exact WindowShift_way_2 s r g x y ok wf_g wf_s wf_r hd hbl h0 h1 h2
      | false =>
        cases h3 : (decide (s.scale > 14)) with
        | true =>
          exact WindowShift_way_3 s r g x y ok wf_g wf_s wf_r hd hbl h0 h1 h2 h3
        | false =>
          have h4 : (((noteF ({ s with fin := IntKind.u32.wrap (s.fin + x), max := IntKind.u32.wrap (s.max + x), ack := IntKind.u32.wrap (s.ack + y) }) ({ r with fin := IntKind.u32.wrap (r.fin + y), max := IntKind.u32.wrap (r.max + y), ack := IntKind.u32.wrap (r.ack + x) }) ({ g with seq := IntKind.u32.wrap (g.seq + x), ack := IntKind.u32.wrap (g.ack + y) })).1.fin) == (IntKind.u32.wrap (((noteF s r g).1.fin) + x))) = true := by
            rw [note_shift s r g hnb x y]
            simp
          have h5 : (((noteF ({ s with fin := IntKind.u32.wrap (s.fin + x), max := IntKind.u32.wrap (s.max + x), ack := IntKind.u32.wrap (s.ack + y) }) ({ r with fin := IntKind.u32.wrap (r.fin + y), max := IntKind.u32.wrap (r.max + y), ack := IntKind.u32.wrap (r.ack + x) }) ({ g with seq := IntKind.u32.wrap (g.seq + x), ack := IntKind.u32.wrap (g.ack + y) })).1.max) == (IntKind.u32.wrap (((noteF s r g).1.max) + x))) = true := by
            rw [note_shift s r g hnb x y]
            simp
          have h6 : (((noteF ({ s with fin := IntKind.u32.wrap (s.fin + x), max := IntKind.u32.wrap (s.max + x), ack := IntKind.u32.wrap (s.ack + y) }) ({ r with fin := IntKind.u32.wrap (r.fin + y), max := IntKind.u32.wrap (r.max + y), ack := IntKind.u32.wrap (r.ack + x) }) ({ g with seq := IntKind.u32.wrap (g.seq + x), ack := IntKind.u32.wrap (g.ack + y) })).1.ack) == (IntKind.u32.wrap (((noteF s r g).1.ack) + y))) = true := by
            rw [note_shift s r g hnb x y]
            simp
          have h7 : (((noteF ({ s with fin := IntKind.u32.wrap (s.fin + x), max := IntKind.u32.wrap (s.max + x), ack := IntKind.u32.wrap (s.ack + y) }) ({ r with fin := IntKind.u32.wrap (r.fin + y), max := IntKind.u32.wrap (r.max + y), ack := IntKind.u32.wrap (r.ack + x) }) ({ g with seq := IntKind.u32.wrap (g.seq + x), ack := IntKind.u32.wrap (g.ack + y) })).1.win) == ((noteF s r g).1.win)) = true := by
            rw [note_shift s r g hnb x y]
            simp
          have h8 : (((noteF ({ s with fin := IntKind.u32.wrap (s.fin + x), max := IntKind.u32.wrap (s.max + x), ack := IntKind.u32.wrap (s.ack + y) }) ({ r with fin := IntKind.u32.wrap (r.fin + y), max := IntKind.u32.wrap (r.max + y), ack := IntKind.u32.wrap (r.ack + x) }) ({ g with seq := IntKind.u32.wrap (g.seq + x), ack := IntKind.u32.wrap (g.ack + y) })).2.fin) == (IntKind.u32.wrap (((noteF s r g).2.fin) + y))) = true := by
            rw [note_shift s r g hnb x y]
            simp
          have h9 : (((noteF ({ s with fin := IntKind.u32.wrap (s.fin + x), max := IntKind.u32.wrap (s.max + x), ack := IntKind.u32.wrap (s.ack + y) }) ({ r with fin := IntKind.u32.wrap (r.fin + y), max := IntKind.u32.wrap (r.max + y), ack := IntKind.u32.wrap (r.ack + x) }) ({ g with seq := IntKind.u32.wrap (g.seq + x), ack := IntKind.u32.wrap (g.ack + y) })).2.max) == (IntKind.u32.wrap (((noteF s r g).2.max) + y))) = true := by
            rw [note_shift s r g hnb x y]
            simp
          have h10 : (((noteF ({ s with fin := IntKind.u32.wrap (s.fin + x), max := IntKind.u32.wrap (s.max + x), ack := IntKind.u32.wrap (s.ack + y) }) ({ r with fin := IntKind.u32.wrap (r.fin + y), max := IntKind.u32.wrap (r.max + y), ack := IntKind.u32.wrap (r.ack + x) }) ({ g with seq := IntKind.u32.wrap (g.seq + x), ack := IntKind.u32.wrap (g.ack + y) })).2.ack) == (IntKind.u32.wrap (((noteF s r g).2.ack) + x))) = true := by
            rw [note_shift s r g hnb x y]
            simp
          exact WindowShift_way_4 s r g x y ok wf_g wf_s wf_r hd hbl h0 h1 h2 h3 h4 h5 h6 h7 h8 h9 h10
theorem WindowShift_row {w : World} (s r : Sd) (wf_s : s.Wf) (wf_r : r.Wf) (g : Sg) (A : Option Addr) (c : Nat) (ok : g.Ok A c w) (wf_g : g.Wf) (x y : Int) (wx : (Lit.int .u32 x).wf = true) (wy : (Lit.int .u32 y).wf = true) : Calls Try.prog 10 #[.agg #[.bool s.on, .int .u32 s.fin, .int .u32 s.max, .int .u32 s.ack, .bool s.has, .int .i64 s.win, .int .i64 s.scale, .bool r.on, .int .u32 r.fin, .int .u32 r.max, .int .u32 r.ack, .bool r.has, .int .i64 r.win, .int .i64 r.scale], g.V A c, .agg #[.int .u32 x, .int .u32 y]] w fun e w' => e = .returned (.bool true) ∧ Below w.heap.size w w' := WindowShift s r g x y ok wf_g wf_s wf_r
theorem begin_bd {g : Sg} (wf : g.Wf) : (0 ≤ (beginF g).fin ∧ (beginF g).fin ≤ 4294967295) ∧ (0 ≤ (beginF g).max ∧ (beginF g).max ≤ 4294967295) ∧ (0 ≤ (beginF g).ack ∧ (beginF g).ack ≤ 4294967295) := by
  rw [begin_eq]
  refine ⟨EndS_bd g, EndS_bd g, ?_⟩
  simp only
  split
  · exact wf.ack
  · omega
def WindowBegins_way_T0 : Bool × List (List Nat × List Nat) := (true, [([], []), ([0], [0]), ([], []), ([2], [2]), ([1, 3], [1, 3]), ([4], [4]), ([5], [5]), ([6, 5], [5, 6]), ([5], [5]), ([8, 5, 5], [5, 8]), ([7, 9, 5], [5, 7, 9]), ([5, 10], [5, 10]), ([11, 9], [11]), ([12], [12]), ([13, 12], [12, 13]), ([14, 12], [12, 14]), ([12, 15], [12, 15]), ([16, 12], [16]), ([17], [17]), ([18, 17], [17, 18]), ([19, 17], [17, 19]), ([17, 20], [17, 20]), ([21, 17], [21]), ([22], [22]), ([23, 22], [22, 23]), ([22], [22]), ([25, 22], [22, 25]), ([26, 22], [22, 26]), ([27, 22], [22, 27]), ([24, 28, 22], [22, 24, 28]), ([22, 29], [22, 29])])
def WindowBegins_way_B0 : List Nat := [0, 1, 0, 4, 15, 31, 63, 127, 63, 319, 1023, 2047, 4095, 8191, 16383, 32767, 65535, 131071, 262143, 524287, 1048575, 2097151, 4194303, 8388607, 16777215, 8388607, 41943039, 109051903, 243269631, 536870911, 1073741823]
set_option maxRecDepth 100000 in
theorem WindowBegins_way_0 {w : World} (g : Sg) (h : Sg) (n : Int)  {A : Option Addr} {c : Nat} (ok : g.Ok A c w) (wf_g : g.Wf) {B : Option Addr} {e : Nat} (okh : h.Ok B e w) (wf_h : h.Wf) (wn : (Lit.int .u8 n).wf = true) (h0 : (!(lightF g)) = true) : Calls Try.prog 9 #[g.V A c, h.V B e, .int .u8 n] w fun e w' => e = .returned (.bool true) ∧ Below w.heap.size w w' :=
  calls_of_check rfl Try.func9 1000000 [g.V A c, h.V B e, .int .u8 n] [(.call 25 [g.V A c] (.bool (lightF g))),
    (.cast 14 (.bool (!(lightF g))) (.bool true)),
    (.call 26 [] (.bool true))] (by kernel_rfl) (by kernel_rfl)
    (by exact ⟨⟨ent Try.func25 rfl rfl, fun w' hw => c_light g⟩, congrArg Value.bool h0, ⟨ent Try.func26 rfl rfl, fun w' hw => c_known17⟩, trivial⟩)
set_option maxRecDepth 100000 in
theorem WindowBegins_way_1 {w : World} (g : Sg) (h : Sg) (n : Int)  {A : Option Addr} {c : Nat} (ok : g.Ok A c w) (wf_g : g.Wf) {B : Option Addr} {e : Nat} (okh : h.Ok B e w) (wf_h : h.Wf) (wn : (Lit.int .u8 n).wf = true) (hd : g.data.size ≤ 1000000) (hbl : g.blocks.length ≤ 1000000) (h0 : (!(lightF g)) = false) (h1 : (!(lightF h)) = true) : Calls Try.prog 9 #[g.V A c, h.V B e, .int .u8 n] w fun e w' => e = .returned (.bool true) ∧ Below w.heap.size w w' :=
  calls_of_check rfl Try.func9 1000000 [g.V A c, h.V B e, .int .u8 n] [(.call 25 [g.V A c] (.bool (lightF g))),
    (.cast 14 (.bool (!(lightF g))) (.bool false)),
    (.call 25 [h.V B e] (.bool (lightF h))),
    (.cast 18 (.bool (!(lightF h))) (.bool true)),
    (.call 26 [] (.bool true))] (by kernel_rfl) (by kernel_rfl)
    (by exact ⟨⟨ent Try.func25 rfl rfl, fun w' hw => c_light g⟩, congrArg Value.bool h0, ⟨ent Try.func25 rfl rfl, fun w' hw => c_light h⟩, congrArg Value.bool h1, ⟨ent Try.func26 rfl rfl, fun w' hw => c_known17⟩, trivial⟩)
set_option maxRecDepth 100000 in
theorem WindowBegins_way_2 {w : World} (g : Sg) (h : Sg) (n : Int)  {A : Option Addr} {c : Nat} (ok : g.Ok A c w) (wf_g : g.Wf) {B : Option Addr} {e : Nat} (okh : h.Ok B e w) (wf_h : h.Wf) (wn : (Lit.int .u8 n).wf = true) (hd : g.data.size ≤ 1000000) (hbl : g.blocks.length ≤ 1000000) (hd2 : h.data.size ≤ 1000000) (hbl2 : h.blocks.length ≤ 1000000) (h0 : (!(lightF g)) = false) (h1 : (!(lightF h)) = false) (h2 : (((beginF g).max) != ((beginF g).fin)) = false) (h3 : (((beginF g).fin) != (EndS g)) = false) (h4 : (!((beginF g).on)) = false) (h5 : (decide (((beginF g).win) < 1)) = false) (h6 : (!(((beginF g).has) == ((Go.bits .and .i64 g.flags 16) != 0))) = false) (h7 : ((Go.bits .and .i64 h.flags 16) == 0) = true) (h8 : (Sd.eq ((noteF ({ (beginF h) with scale := Int.tmod (IntKind.i64.wrap n) 15 }) (beginF g) h).2) (beginF g)) = true) : Calls Try.prog 9 #[g.V A c, h.V B e, .int .u8 n] w fun e w' => e = .returned (.bool true) ∧ Below w.heap.size w w' :=
  calls_of_check rfl Try.func9 1000000 [g.V A c, h.V B e, .int .u8 n] [(.call 25 [g.V A c] (.bool (lightF g))),
    (.cast 14 (.bool (!(lightF g))) (.bool false)),
    (.call 25 [h.V B e] (.bool (lightF h))),
    (.cast 18 (.bool (!(lightF h))) (.bool false)),
    (.call 32 [g.V A c] ((beginF g).V)),
    (.call 32 [h.V B e] ((beginF h).V)),
    (.sched WindowBegins_way_T0 WindowBegins_way_B0 [(3, 0), (3, 1), (3, 2), (3, 3), (3, 4), (3, 5), (3, 6), (3, 7), (3, 8), (3, 9), (3, 10), (3, 11), (3, 12), (3, 13), (3, 14), (7, 0), (7, 1), (7, 2), (7, 4), (7, 5)] [] (.s 0 0 (.s 0 2 (.s 1 1 (.s 1 3 (.s 0 4 (.s 0 5 (.s 0 6 (.s 1 7 (.s 1 8 (.s 2 9 (.s 0 10 (.s 0 11 (.s 0 12 (.s 0 13 (.s 1 14 (.s 0 15 (.s 0 16 (.s 0 17 (.s 0 18 (.s 1 19 (.s 0 20 (.s 0 21 (.s 0 22 (.s 0 23 (.s 0 25 (.s 1 24 (.s 1 26 (.s 0 27 (.s 0 28 (.s 0 29 (.s 0 30 .e)))))))))))))))))))))))))))))))),
    (.cast 33 (.bool (((beginF g).max) != ((beginF g).fin))) (.bool false)),
    (.call 24 [g.V A c] (.int .u32 (EndS g))),
    (.cast 39 (.bool (((beginF g).fin) != (EndS g))) (.bool false)),
    (.cast 44 (.bool (!((beginF g).on))) (.bool false)),
    (.cast 49 (.bool (decide (((beginF g).win) < 1))) (.bool false)),
    (.cast 58 (.bool (!(((beginF g).has) == ((Go.bits .and .i64 g.flags 16) != 0)))) (.bool false)),
    (.call 27 [.agg #[.bool ((beginF h).on), .int .u32 ((beginF h).fin), .int .u32 ((beginF h).max), .int .u32 ((beginF h).ack), .bool ((beginF h).has), .int .i64 ((beginF h).win), .int .i64 (Int.tmod (IntKind.i64.wrap n) 15)], (beginF g).V, h.V B e] (.tuple #[(noteF ({ (beginF h) with scale := Int.tmod (IntKind.i64.wrap n) 15 }) (beginF g) h).1.V, (noteF ({ (beginF h) with scale := Int.tmod (IntKind.i64.wrap n) 15 }) (beginF g) h).2.V])),
    (.cast 70 (.bool ((Go.bits .and .i64 h.flags 16) == 0)) (.bool true)),
    (.orc 73 (.binOp .eql 24 (.const ((noteF ({ (beginF h) with scale := Int.tmod (IntKind.i64.wrap n) 15 }) (beginF g) h).2.V)) (.const ((beginF g).V)) 24) (.bool true)),
    (.call 26 [] (.bool true))] (by kernel_rfl) (by kernel_rfl)
    (by exact ⟨⟨ent Try.func25 rfl rfl, fun w' hw => c_light g⟩, congrArg Value.bool h0, ⟨ent Try.func25 rfl rfl, fun w' hw => c_light h⟩, congrArg Value.bool h1, ⟨ent Try.func32 rfl rfl, fun w' hw => c_begin g (ok.keep hw) hd⟩, ⟨ent Try.func32 rfl rfl, fun w' hw => c_begin h (okh.keep hw) hd2⟩, trivial, congrArg Value.bool h2, ⟨ent Try.func24 rfl rfl, fun w' hw => c_rend (s := g) (A := A) (c := c) wf_g (ok.keep hw) hd⟩, congrArg Value.bool h3, congrArg Value.bool h4, congrArg Value.bool h5, congrArg Value.bool h6, ⟨ent Try.func27 rfl rfl, fun w' hw => c_note ({ (beginF h) with scale := Int.tmod (IntKind.i64.wrap n) 15 }) (beginF g) h (okh.keep hw) hd2⟩, congrArg Value.bool h7, orc_eq (congrArg Value.bool h8) (orc_eql (by kernel_rfl) (eq24 ((noteF ({ (beginF h) with scale := Int.tmod (IntKind.i64.wrap n) 15 }) (beginF g) h).2) (beginF g))), ⟨ent Try.func26 rfl rfl, fun w' hw => c_known17⟩, trivial⟩)
set_option maxRecDepth 100000 in
theorem WindowBegins_way_3 {w : World} (g : Sg) (h : Sg) (n : Int)  {A : Option Addr} {c : Nat} (ok : g.Ok A c w) (wf_g : g.Wf) {B : Option Addr} {e : Nat} (okh : h.Ok B e w) (wf_h : h.Wf) (wn : (Lit.int .u8 n).wf = true) (hd : g.data.size ≤ 1000000) (hbl : g.blocks.length ≤ 1000000) (hd2 : h.data.size ≤ 1000000) (hbl2 : h.blocks.length ≤ 1000000) (h0 : (!(lightF g)) = false) (h1 : (!(lightF h)) = false) (h2 : (((beginF g).max) != ((beginF g).fin)) = false) (h3 : (((beginF g).fin) != (EndS g)) = false) (h4 : (!((beginF g).on)) = false) (h5 : (decide (((beginF g).win) < 1)) = false) (h6 : (!(((beginF g).has) == ((Go.bits .and .i64 g.flags 16) != 0))) = false) (h7 : ((Go.bits .and .i64 h.flags 16) == 0) = false) (h8 : (((noteF ({ (beginF h) with scale := Int.tmod (IntKind.i64.wrap n) 15 }) (beginF g) h).2.max) == ((beginF g).max)) = true) (h9 : (!(decide (0 < G ((beginF g).max) (Grant h (Int.tmod (IntKind.i64.wrap n) 15))))) = true) : Calls Try.prog 9 #[g.V A c, h.V B e, .int .u8 n] w fun e w' => e = .returned (.bool true) ∧ Below w.heap.size w w' :=
  calls_of_check rfl Try.func9 1000000 [g.V A c, h.V B e, .int .u8 n] [(.call 25 [g.V A c] (.bool (lightF g))),
    (.cast 14 (.bool (!(lightF g))) (.bool false)),
    (.call 25 [h.V B e] (.bool (lightF h))),
    (.cast 18 (.bool (!(lightF h))) (.bool false)),
    (.call 32 [g.V A c] ((beginF g).V)),
    (.call 32 [h.V B e] ((beginF h).V)),
    (.sched WindowBegins_way_T0 WindowBegins_way_B0 [(3, 0), (3, 1), (3, 2), (3, 3), (3, 4), (3, 5), (3, 6), (3, 7), (3, 8), (3, 9), (3, 10), (3, 11), (3, 12), (3, 13), (3, 14), (7, 0), (7, 1), (7, 2), (7, 4), (7, 5)] [] (.s 0 0 (.s 0 2 (.s 1 1 (.s 1 3 (.s 0 4 (.s 0 5 (.s 0 6 (.s 1 7 (.s 1 8 (.s 2 9 (.s 0 10 (.s 0 11 (.s 0 12 (.s 0 13 (.s 1 14 (.s 0 15 (.s 0 16 (.s 0 17 (.s 0 18 (.s 1 19 (.s 0 20 (.s 0 21 (.s 0 22 (.s 0 23 (.s 0 25 (.s 1 24 (.s 1 26 (.s 0 27 (.s 0 28 (.s 0 29 (.s 0 30 .e)))))))))))))))))))))))))))))))),
    (.cast 33 (.bool (((beginF g).max) != ((beginF g).fin))) (.bool false)),
    (.call 24 [g.V A c] (.int .u32 (EndS g))),
    (.cast 39 (.bool (((beginF g).fin) != (EndS g))) (.bool false)),
    (.cast 44 (.bool (!((beginF g).on))) (.bool false)),
    (.cast 49 (.bool (decide (((beginF g).win) < 1))) (.bool false)),
    (.cast 58 (.bool (!(((beginF g).has) == ((Go.bits .and .i64 g.flags 16) != 0)))) (.bool false)),
    (.call 27 [.agg #[.bool ((beginF h).on), .int .u32 ((beginF h).fin), .int .u32 ((beginF h).max), .int .u32 ((beginF h).ack), .bool ((beginF h).has), .int .i64 ((beginF h).win), .int .i64 (Int.tmod (IntKind.i64.wrap n) 15)], (beginF g).V, h.V B e] (.tuple #[(noteF ({ (beginF h) with scale := Int.tmod (IntKind.i64.wrap n) 15 }) (beginF g) h).1.V, (noteF ({ (beginF h) with scale := Int.tmod (IntKind.i64.wrap n) 15 }) (beginF g) h).2.V])),
    (.cast 70 (.bool ((Go.bits .and .i64 h.flags 16) == 0)) (.bool false)),
    (.call 37 [h.V B e, .int .i64 (Int.tmod (IntKind.i64.wrap n) 15)] (.int .u32 (Grant h (Int.tmod (IntKind.i64.wrap n) 15)))),
    (.cast 85 (.bool (((noteF ({ (beginF h) with scale := Int.tmod (IntKind.i64.wrap n) 15 }) (beginF g) h).2.max) == ((beginF g).max))) (.bool true)),
    (.call 38 [.int .u32 ((beginF g).max), .int .u32 (Grant h (Int.tmod (IntKind.i64.wrap n) 15))] (.bool (decide (0 < G ((beginF g).max) (Grant h (Int.tmod (IntKind.i64.wrap n) 15)))))),
    (.cast 97 (.bool (!(decide (0 < G ((beginF g).max) (Grant h (Int.tmod (IntKind.i64.wrap n) 15)))))) (.bool true)),
    (.call 26 [] (.bool true))] (by kernel_rfl) (by kernel_rfl)
    (by exact ⟨⟨ent Try.func25 rfl rfl, fun w' hw => c_light g⟩, congrArg Value.bool h0, ⟨ent Try.func25 rfl rfl, fun w' hw => c_light h⟩, congrArg Value.bool h1, ⟨ent Try.func32 rfl rfl, fun w' hw => c_begin g (ok.keep hw) hd⟩, ⟨ent Try.func32 rfl rfl, fun w' hw => c_begin h (okh.keep hw) hd2⟩, trivial, congrArg Value.bool h2, ⟨ent Try.func24 rfl rfl, fun w' hw => c_rend (s := g) (A := A) (c := c) wf_g (ok.keep hw) hd⟩, congrArg Value.bool h3, congrArg Value.bool h4, congrArg Value.bool h5, congrArg Value.bool h6, ⟨ent Try.func27 rfl rfl, fun w' hw => c_note ({ (beginF h) with scale := Int.tmod (IntKind.i64.wrap n) 15 }) (beginF g) h (okh.keep hw) hd2⟩, congrArg Value.bool h7, ⟨ent Try.func37 rfl rfl, fun w' hw => c_rgrant (s := h) (A := B) (c := e) (Int.tmod (IntKind.i64.wrap n) 15) wf_h (okh.keep hw) hbl2⟩, congrArg Value.bool h8, ⟨ent Try.func38 rfl rfl, fun w' hw => c_rbefore (begin_bd wf_g).2.1 (Grant_bd _ _)⟩, congrArg Value.bool h9, ⟨ent Try.func26 rfl rfl, fun w' hw => c_known17⟩, trivial⟩)
set_option maxRecDepth 100000 in
theorem WindowBegins_way_4 {w : World} (g : Sg) (h : Sg) (n : Int)  {A : Option Addr} {c : Nat} (ok : g.Ok A c w) (wf_g : g.Wf) {B : Option Addr} {e : Nat} (okh : h.Ok B e w) (wf_h : h.Wf) (wn : (Lit.int .u8 n).wf = true) (hd : g.data.size ≤ 1000000) (hbl : g.blocks.length ≤ 1000000) (hd2 : h.data.size ≤ 1000000) (hbl2 : h.blocks.length ≤ 1000000) (h0 : (!(lightF g)) = false) (h1 : (!(lightF h)) = false) (h2 : (((beginF g).max) != ((beginF g).fin)) = false) (h3 : (((beginF g).fin) != (EndS g)) = false) (h4 : (!((beginF g).on)) = false) (h5 : (decide (((beginF g).win) < 1)) = false) (h6 : (!(((beginF g).has) == ((Go.bits .and .i64 g.flags 16) != 0))) = false) (h7 : ((Go.bits .and .i64 h.flags 16) == 0) = false) (h8 : (((noteF ({ (beginF h) with scale := Int.tmod (IntKind.i64.wrap n) 15 }) (beginF g) h).2.max) == ((beginF g).max)) = true) (h9 : (!(decide (0 < G ((beginF g).max) (Grant h (Int.tmod (IntKind.i64.wrap n) 15))))) = false) (h10 : (((noteF ({ (beginF h) with scale := Int.tmod (IntKind.i64.wrap n) 15 }) (beginF g) h).2.max) == (Grant h (Int.tmod (IntKind.i64.wrap n) 15))) = true) : Calls Try.prog 9 #[g.V A c, h.V B e, .int .u8 n] w fun e w' => e = .returned (.bool true) ∧ Below w.heap.size w w' :=
  calls_of_check rfl Try.func9 1000000 [g.V A c, h.V B e, .int .u8 n] [(.call 25 [g.V A c] (.bool (lightF g))),
    (.cast 14 (.bool (!(lightF g))) (.bool false)),
    (.call 25 [h.V B e] (.bool (lightF h))),
    (.cast 18 (.bool (!(lightF h))) (.bool false)),
    (.call 32 [g.V A c] ((beginF g).V)),
    (.call 32 [h.V B e] ((beginF h).V)),
    (.sched WindowBegins_way_T0 WindowBegins_way_B0 [(3, 0), (3, 1), (3, 2), (3, 3), (3, 4), (3, 5), (3, 6), (3, 7), (3, 8), (3, 9), (3, 10), (3, 11), (3, 12), (3, 13), (3, 14), (7, 0), (7, 1), (7, 2), (7, 4), (7, 5)] [] (.s 0 0 (.s 0 2 (.s 1 1 (.s 1 3 (.s 0 4 (.s 0 5 (.s 0 6 (.s 1 7 (.s 1 8 (.s 2 9 (.s 0 10 (.s 0 11 (.s 0 12 (.s 0 13 (.s 1 14 (.s 0 15 (.s 0 16 (.s 0 17 (.s 0 18 (.s 1 19 (.s 0 20 (.s 0 21 (.s 0 22 (.s 0 23 (.s 0 25 (.s 1 24 (.s 1 26 (.s 0 27 (.s 0 28 (.s 0 29 (.s 0 30 .e)))))))))))))))))))))))))))))))),
    (.cast 33 (.bool (((beginF g).max) != ((beginF g).fin))) (.bool false)),
    (.call 24 [g.V A c] (.int .u32 (EndS g))),
    (.cast 39 (.bool (((beginF g).fin) != (EndS g))) (.bool false)),
    (.cast 44 (.bool (!((beginF g).on))) (.bool false)),
    (.cast 49 (.bool (decide (((beginF g).win) < 1))) (.bool false)),
    (.cast 58 (.bool (!(((beginF g).has) == ((Go.bits .and .i64 g.flags 16) != 0)))) (.bool false)),
    (.call 27 [.agg #[.bool ((beginF h).on), .int .u32 ((beginF h).fin), .int .u32 ((beginF h).max), .int .u32 ((beginF h).ack), .bool ((beginF h).has), .int .i64 ((beginF h).win), .int .i64 (Int.tmod (IntKind.i64.wrap n) 15)], (beginF g).V, h.V B e] (.tuple #[(noteF ({ (beginF h) with scale := Int.tmod (IntKind.i64.wrap n) 15 }) (beginF g) h).1.V, (noteF ({ (beginF h) with scale := Int.tmod (IntKind.i64.wrap n) 15 }) (beginF g) h).2.V])),
    (.cast 70 (.bool ((Go.bits .and .i64 h.flags 16) == 0)) (.bool false)),
    (.call 37 [h.V B e, .int .i64 (Int.tmod (IntKind.i64.wrap n) 15)] (.int .u32 (Grant h (Int.tmod (IntKind.i64.wrap n) 15)))),
    (.cast 85 (.bool (((noteF ({ (beginF h) with scale := Int.tmod (IntKind.i64.wrap n) 15 }) (beginF g) h).2.max) == ((beginF g).max))) (.bool true)),
    (.call 38 [.int .u32 ((beginF g).max), .int .u32 (Grant h (Int.tmod (IntKind.i64.wrap n) 15))] (.bool (decide (0 < G ((beginF g).max) (Grant h (Int.tmod (IntKind.i64.wrap n) 15)))))),
    (.cast 97 (.bool (!(decide (0 < G ((beginF g).max) (Grant h (Int.tmod (IntKind.i64.wrap n) 15)))))) (.bool false)),
    (.cast 102 (.bool (((noteF ({ (beginF h) with scale := Int.tmod (IntKind.i64.wrap n) 15 }) (beginF g) h).2.max) == (Grant h (Int.tmod (IntKind.i64.wrap n) 15)))) (.bool true)),
    (.call 26 [] (.bool true))] (by kernel_rfl) (by kernel_rfl)
    (by exact ⟨⟨ent Try.func25 rfl rfl, fun w' hw => c_light g⟩, congrArg Value.bool h0, ⟨ent Try.func25 rfl rfl, fun w' hw => c_light h⟩, congrArg Value.bool h1, ⟨ent Try.func32 rfl rfl, fun w' hw => c_begin g (ok.keep hw) hd⟩, ⟨ent Try.func32 rfl rfl, fun w' hw => c_begin h (okh.keep hw) hd2⟩, trivial, congrArg Value.bool h2, ⟨ent Try.func24 rfl rfl, fun w' hw => c_rend (s := g) (A := A) (c := c) wf_g (ok.keep hw) hd⟩, congrArg Value.bool h3, congrArg Value.bool h4, congrArg Value.bool h5, congrArg Value.bool h6, ⟨ent Try.func27 rfl rfl, fun w' hw => c_note ({ (beginF h) with scale := Int.tmod (IntKind.i64.wrap n) 15 }) (beginF g) h (okh.keep hw) hd2⟩, congrArg Value.bool h7, ⟨ent Try.func37 rfl rfl, fun w' hw => c_rgrant (s := h) (A := B) (c := e) (Int.tmod (IntKind.i64.wrap n) 15) wf_h (okh.keep hw) hbl2⟩, congrArg Value.bool h8, ⟨ent Try.func38 rfl rfl, fun w' hw => c_rbefore (begin_bd wf_g).2.1 (Grant_bd _ _)⟩, congrArg Value.bool h9, congrArg Value.bool h10, ⟨ent Try.func26 rfl rfl, fun w' hw => c_known17⟩, trivial⟩)
set_option maxRecDepth 100000 in
theorem WindowBegins_way_5 {w : World} (g : Sg) (h : Sg) (n : Int)  {A : Option Addr} {c : Nat} (ok : g.Ok A c w) (wf_g : g.Wf) {B : Option Addr} {e : Nat} (okh : h.Ok B e w) (wf_h : h.Wf) (wn : (Lit.int .u8 n).wf = true) (hd : g.data.size ≤ 1000000) (hbl : g.blocks.length ≤ 1000000) (hd2 : h.data.size ≤ 1000000) (hbl2 : h.blocks.length ≤ 1000000) (h0 : (!(lightF g)) = false) (h1 : (!(lightF h)) = false) (h2 : (((beginF g).max) != ((beginF g).fin)) = false) (h3 : (((beginF g).fin) != (EndS g)) = false) (h4 : (!((beginF g).on)) = false) (h5 : (decide (((beginF g).win) < 1)) = false) (h6 : (!(((beginF g).has) == ((Go.bits .and .i64 g.flags 16) != 0))) = false) (h7 : ((Go.bits .and .i64 h.flags 16) == 0) = false) (h8 : (((noteF ({ (beginF h) with scale := Int.tmod (IntKind.i64.wrap n) 15 }) (beginF g) h).2.max) == ((beginF g).max)) = false) (h9 : (((noteF ({ (beginF h) with scale := Int.tmod (IntKind.i64.wrap n) 15 }) (beginF g) h).2.max) == (Grant h (Int.tmod (IntKind.i64.wrap n) 15))) = true) (h10 : (!(decide (0 < G ((beginF g).max) (Grant h (Int.tmod (IntKind.i64.wrap n) 15))))) = true) : Calls Try.prog 9 #[g.V A c, h.V B e, .int .u8 n] w fun e w' => e = .returned (.bool true) ∧ Below w.heap.size w w' :=
  calls_of_check rfl Try.func9 1000000 [g.V A c, h.V B e, .int .u8 n] [(.call 25 [g.V A c] (.bool (lightF g))),
    (.cast 14 (.bool (!(lightF g))) (.bool false)),
    (.call 25 [h.V B e] (.bool (lightF h))),
    (.cast 18 (.bool (!(lightF h))) (.bool false)),
    (.call 32 [g.V A c] ((beginF g).V)),
    (.call 32 [h.V B e] ((beginF h).V)),
    (.sched WindowBegins_way_T0 WindowBegins_way_B0 [(3, 0), (3, 1), (3, 2), (3, 3), (3, 4), (3, 5), (3, 6), (3, 7), (3, 8), (3, 9), (3, 10), (3, 11), (3, 12), (3, 13), (3, 14), (7, 0), (7, 1), (7, 2), (7, 4), (7, 5)] [] (.s 0 0 (.s 0 2 (.s 1 1 (.s 1 3 (.s 0 4 (.s 0 5 (.s 0 6 (.s 1 7 (.s 1 8 (.s 2 9 (.s 0 10 (.s 0 11 (.s 0 12 (.s 0 13 (.s 1 14 (.s 0 15 (.s 0 16 (.s 0 17 (.s 0 18 (.s 1 19 (.s 0 20 (.s 0 21 (.s 0 22 (.s 0 23 (.s 0 25 (.s 1 24 (.s 1 26 (.s 0 27 (.s 0 28 (.s 0 29 (.s 0 30 .e)))))))))))))))))))))))))))))))),
    (.cast 33 (.bool (((beginF g).max) != ((beginF g).fin))) (.bool false)),
    (.call 24 [g.V A c] (.int .u32 (EndS g))),
    (.cast 39 (.bool (((beginF g).fin) != (EndS g))) (.bool false)),
    (.cast 44 (.bool (!((beginF g).on))) (.bool false)),
    (.cast 49 (.bool (decide (((beginF g).win) < 1))) (.bool false)),
    (.cast 58 (.bool (!(((beginF g).has) == ((Go.bits .and .i64 g.flags 16) != 0)))) (.bool false)),
    (.call 27 [.agg #[.bool ((beginF h).on), .int .u32 ((beginF h).fin), .int .u32 ((beginF h).max), .int .u32 ((beginF h).ack), .bool ((beginF h).has), .int .i64 ((beginF h).win), .int .i64 (Int.tmod (IntKind.i64.wrap n) 15)], (beginF g).V, h.V B e] (.tuple #[(noteF ({ (beginF h) with scale := Int.tmod (IntKind.i64.wrap n) 15 }) (beginF g) h).1.V, (noteF ({ (beginF h) with scale := Int.tmod (IntKind.i64.wrap n) 15 }) (beginF g) h).2.V])),
    (.cast 70 (.bool ((Go.bits .and .i64 h.flags 16) == 0)) (.bool false)),
    (.call 37 [h.V B e, .int .i64 (Int.tmod (IntKind.i64.wrap n) 15)] (.int .u32 (Grant h (Int.tmod (IntKind.i64.wrap n) 15)))),
    (.cast 85 (.bool (((noteF ({ (beginF h) with scale := Int.tmod (IntKind.i64.wrap n) 15 }) (beginF g) h).2.max) == ((beginF g).max))) (.bool false)),
    (.cast 90 (.bool (((noteF ({ (beginF h) with scale := Int.tmod (IntKind.i64.wrap n) 15 }) (beginF g) h).2.max) == (Grant h (Int.tmod (IntKind.i64.wrap n) 15)))) (.bool true)),
    (.call 38 [.int .u32 ((beginF g).max), .int .u32 (Grant h (Int.tmod (IntKind.i64.wrap n) 15))] (.bool (decide (0 < G ((beginF g).max) (Grant h (Int.tmod (IntKind.i64.wrap n) 15)))))),
    (.cast 97 (.bool (!(decide (0 < G ((beginF g).max) (Grant h (Int.tmod (IntKind.i64.wrap n) 15)))))) (.bool true)),
    (.call 26 [] (.bool true))] (by kernel_rfl) (by kernel_rfl)
    (by exact ⟨⟨ent Try.func25 rfl rfl, fun w' hw => c_light g⟩, congrArg Value.bool h0, ⟨ent Try.func25 rfl rfl, fun w' hw => c_light h⟩, congrArg Value.bool h1, ⟨ent Try.func32 rfl rfl, fun w' hw => c_begin g (ok.keep hw) hd⟩, ⟨ent Try.func32 rfl rfl, fun w' hw => c_begin h (okh.keep hw) hd2⟩, trivial, congrArg Value.bool h2, ⟨ent Try.func24 rfl rfl, fun w' hw => c_rend (s := g) (A := A) (c := c) wf_g (ok.keep hw) hd⟩, congrArg Value.bool h3, congrArg Value.bool h4, congrArg Value.bool h5, congrArg Value.bool h6, ⟨ent Try.func27 rfl rfl, fun w' hw => c_note ({ (beginF h) with scale := Int.tmod (IntKind.i64.wrap n) 15 }) (beginF g) h (okh.keep hw) hd2⟩, congrArg Value.bool h7, ⟨ent Try.func37 rfl rfl, fun w' hw => c_rgrant (s := h) (A := B) (c := e) (Int.tmod (IntKind.i64.wrap n) 15) wf_h (okh.keep hw) hbl2⟩, congrArg Value.bool h8, congrArg Value.bool h9, ⟨ent Try.func38 rfl rfl, fun w' hw => c_rbefore (begin_bd wf_g).2.1 (Grant_bd _ _)⟩, congrArg Value.bool h10, ⟨ent Try.func26 rfl rfl, fun w' hw => c_known17⟩, trivial⟩)
set_option maxRecDepth 100000 in
theorem WindowBegins_way_6 {w : World} (g : Sg) (h : Sg) (n : Int)  {A : Option Addr} {c : Nat} (ok : g.Ok A c w) (wf_g : g.Wf) {B : Option Addr} {e : Nat} (okh : h.Ok B e w) (wf_h : h.Wf) (wn : (Lit.int .u8 n).wf = true) (hd : g.data.size ≤ 1000000) (hbl : g.blocks.length ≤ 1000000) (hd2 : h.data.size ≤ 1000000) (hbl2 : h.blocks.length ≤ 1000000) (h0 : (!(lightF g)) = false) (h1 : (!(lightF h)) = false) (h2 : (((beginF g).max) != ((beginF g).fin)) = false) (h3 : (((beginF g).fin) != (EndS g)) = false) (h4 : (!((beginF g).on)) = false) (h5 : (decide (((beginF g).win) < 1)) = false) (h6 : (!(((beginF g).has) == ((Go.bits .and .i64 g.flags 16) != 0))) = false) (h7 : ((Go.bits .and .i64 h.flags 16) == 0) = false) (h8 : (((noteF ({ (beginF h) with scale := Int.tmod (IntKind.i64.wrap n) 15 }) (beginF g) h).2.max) == ((beginF g).max)) = false) (h9 : (((noteF ({ (beginF h) with scale := Int.tmod (IntKind.i64.wrap n) 15 }) (beginF g) h).2.max) == (Grant h (Int.tmod (IntKind.i64.wrap n) 15))) = true) (h10 : (!(decide (0 < G ((beginF g).max) (Grant h (Int.tmod (IntKind.i64.wrap n) 15))))) = false) : Calls Try.prog 9 #[g.V A c, h.V B e, .int .u8 n] w fun e w' => e = .returned (.bool true) ∧ Below w.heap.size w w' :=
  calls_of_check rfl Try.func9 1000000 [g.V A c, h.V B e, .int .u8 n] [(.call 25 [g.V A c] (.bool (lightF g))),
    (.cast 14 (.bool (!(lightF g))) (.bool false)),
    (.call 25 [h.V B e] (.bool (lightF h))),
    (.cast 18 (.bool (!(lightF h))) (.bool false)),
    (.call 32 [g.V A c] ((beginF g).V)),
    (.call 32 [h.V B e] ((beginF h).V)),
    (.sched WindowBegins_way_T0 WindowBegins_way_B0 [(3, 0), (3, 1), (3, 2), (3, 3), (3, 4), (3, 5), (3, 6), (3, 7), (3, 8), (3, 9), (3, 10), (3, 11), (3, 12), (3, 13), (3, 14), (7, 0), (7, 1), (7, 2), (7, 4), (7, 5)] [] (.s 0 0 (.s 0 2 (.s 1 1 (.s 1 3 (.s 0 4 (.s 0 5 (.s 0 6 (.s 1 7 (.s 1 8 (.s 2 9 (.s 0 10 (.s 0 11 (.s 0 12 (.s 0 13 (.s 1 14 (.s 0 15 (.s 0 16 (.s 0 17 (.s 0 18 (.s 1 19 (.s 0 20 (.s 0 21 (.s 0 22 (.s 0 23 (.s 0 25 (.s 1 24 (.s 1 26 (.s 0 27 (.s 0 28 (.s 0 29 (.s 0 30 .e)))))))))))))))))))))))))))))))),
    (.cast 33 (.bool (((beginF g).max) != ((beginF g).fin))) (.bool false)),
    (.call 24 [g.V A c] (.int .u32 (EndS g))),
    (.cast 39 (.bool (((beginF g).fin) != (EndS g))) (.bool false)),
    (.cast 44 (.bool (!((beginF g).on))) (.bool false)),
    (.cast 49 (.bool (decide (((beginF g).win) < 1))) (.bool false)),
    (.cast 58 (.bool (!(((beginF g).has) == ((Go.bits .and .i64 g.flags 16) != 0)))) (.bool false)),
    (.call 27 [.agg #[.bool ((beginF h).on), .int .u32 ((beginF h).fin), .int .u32 ((beginF h).max), .int .u32 ((beginF h).ack), .bool ((beginF h).has), .int .i64 ((beginF h).win), .int .i64 (Int.tmod (IntKind.i64.wrap n) 15)], (beginF g).V, h.V B e] (.tuple #[(noteF ({ (beginF h) with scale := Int.tmod (IntKind.i64.wrap n) 15 }) (beginF g) h).1.V, (noteF ({ (beginF h) with scale := Int.tmod (IntKind.i64.wrap n) 15 }) (beginF g) h).2.V])),
    (.cast 70 (.bool ((Go.bits .and .i64 h.flags 16) == 0)) (.bool false)),
    (.call 37 [h.V B e, .int .i64 (Int.tmod (IntKind.i64.wrap n) 15)] (.int .u32 (Grant h (Int.tmod (IntKind.i64.wrap n) 15)))),
    (.cast 85 (.bool (((noteF ({ (beginF h) with scale := Int.tmod (IntKind.i64.wrap n) 15 }) (beginF g) h).2.max) == ((beginF g).max))) (.bool false)),
    (.cast 90 (.bool (((noteF ({ (beginF h) with scale := Int.tmod (IntKind.i64.wrap n) 15 }) (beginF g) h).2.max) == (Grant h (Int.tmod (IntKind.i64.wrap n) 15)))) (.bool true)),
    (.call 38 [.int .u32 ((beginF g).max), .int .u32 (Grant h (Int.tmod (IntKind.i64.wrap n) 15))] (.bool (decide (0 < G ((beginF g).max) (Grant h (Int.tmod (IntKind.i64.wrap n) 15)))))),
    (.cast 97 (.bool (!(decide (0 < G ((beginF g).max) (Grant h (Int.tmod (IntKind.i64.wrap n) 15)))))) (.bool false)),
    (.cast 102 (.bool (((noteF ({ (beginF h) with scale := Int.tmod (IntKind.i64.wrap n) 15 }) (beginF g) h).2.max) == (Grant h (Int.tmod (IntKind.i64.wrap n) 15)))) (.bool true)),
    (.call 26 [] (.bool true))] (by kernel_rfl) (by kernel_rfl)
    (by exact ⟨⟨ent Try.func25 rfl rfl, fun w' hw => c_light g⟩, congrArg Value.bool h0, ⟨ent Try.func25 rfl rfl, fun w' hw => c_light h⟩, congrArg Value.bool h1, ⟨ent Try.func32 rfl rfl, fun w' hw => c_begin g (ok.keep hw) hd⟩, ⟨ent Try.func32 rfl rfl, fun w' hw => c_begin h (okh.keep hw) hd2⟩, trivial, congrArg Value.bool h2, ⟨ent Try.func24 rfl rfl, fun w' hw => c_rend (s := g) (A := A) (c := c) wf_g (ok.keep hw) hd⟩, congrArg Value.bool h3, congrArg Value.bool h4, congrArg Value.bool h5, congrArg Value.bool h6, ⟨ent Try.func27 rfl rfl, fun w' hw => c_note ({ (beginF h) with scale := Int.tmod (IntKind.i64.wrap n) 15 }) (beginF g) h (okh.keep hw) hd2⟩, congrArg Value.bool h7, ⟨ent Try.func37 rfl rfl, fun w' hw => c_rgrant (s := h) (A := B) (c := e) (Int.tmod (IntKind.i64.wrap n) 15) wf_h (okh.keep hw) hbl2⟩, congrArg Value.bool h8, congrArg Value.bool h9, ⟨ent Try.func38 rfl rfl, fun w' hw => c_rbefore (begin_bd wf_g).2.1 (Grant_bd _ _)⟩, congrArg Value.bool h10, congrArg Value.bool h9, ⟨ent Try.func26 rfl rfl, fun w' hw => c_known17⟩, trivial⟩)
theorem WindowBegins {w : World} (g : Sg) (h : Sg) (n : Int)  {A : Option Addr} {c : Nat} (ok : g.Ok A c w) (wf_g : g.Wf) {B : Option Addr} {e : Nat} (okh : h.Ok B e w) (wf_h : h.Wf) (wn : (Lit.int .u8 n).wf = true) : Calls Try.prog 9 #[g.V A c, h.V B e, .int .u8 n] w fun e w' => e = .returned (.bool true) ∧ Below w.heap.size w w' := by
  cases h0 : (!(lightF g)) with
  | true =>
    exact WindowBegins_way_0 g h n ok wf_g okh wf_h wn h0
  | false =>
    have hlg := (light_iff g).1 (by simpa using h0)
    have hd : g.data.size ≤ 1000000 := by omega
    have hbl : g.blocks.length ≤ 1000000 := by omega
    cases h1 : (!(lightF h)) with
    | true =>
      exact WindowBegins_way_1 g h n ok wf_g okh wf_h wn hd hbl h0 h1
    | false =>
      have hlh := (light_iff h).1 (by simpa using h1)
      have hd2 : h.data.size ≤ 1000000 := by omega
      have hbl2 : h.blocks.length ≤ 1000000 := by omega
      have h2 : (((beginF g).max) != ((beginF g).fin)) = false := by
        rw [begin_eq]; simp
      have h3 : (((beginF g).fin) != (EndS g)) = false := by
        rw [begin_eq]; simp
      have h4 : (!((beginF g).on)) = false := by
        rw [begin_eq]; simp
      have h5 : (decide (((beginF g).win) < 1)) = false := by
        rw [begin_eq]
        exact decide_eq_false (Int.not_lt.2 (mx_l _ _))
      have h6 : (!(((beginF g).has) == ((Go.bits .and .i64 g.flags 16) != 0))) = false := by
        rw [begin_eq, bit16']; simp
      cases h7 : ((Go.bits .and .i64 h.flags 16) == 0) with
      | true =>
        have h8 : (Sd.eq ((noteF ({ (beginF h) with scale := Int.tmod (IntKind.i64.wrap n) 15 }) (beginF g) h).2) (beginF g)) = true := by
          exact begins_same _ g h h7
        exact WindowBegins_way_2 g h n ok wf_g okh wf_h wn hd hbl hd2 hbl2 h0 h1 h2 h3 h4 h5 h6 h7 h8
      | false =>
        cases h8 : (((noteF ({ (beginF h) with scale := Int.tmod (IntKind.i64.wrap n) 15 }) (beginF g) h).2.max) == ((beginF g).max)) with
        | true =>
          cases h9 : (!(decide (0 < G ((beginF g).max) (Grant h (Int.tmod (IntKind.i64.wrap n) 15))))) with
          | true =>
            exact WindowBegins_way_3 g h n ok wf_g okh wf_h wn hd hbl hd2 hbl2 h0 h1 h2 h3 h4 h5 h6 h7 h8 h9
          | false =>
            have h10 : (((noteF ({ (beginF h) with scale := Int.tmod (IntKind.i64.wrap n) 15 }) (beginF g) h).2.max) == (Grant h (Int.tmod (IntKind.i64.wrap n) 15))) = true := by
              exact begins_x (begins_max _ g h h7) (.inr h9)
            exact WindowBegins_way_4 g h n ok wf_g okh wf_h wn hd hbl hd2 hbl2 h0 h1 h2 h3 h4 h5 h6 h7 h8 h9 h10
        | false =>
          have h9 : (((noteF ({ (beginF h) with scale := Int.tmod (IntKind.i64.wrap n) 15 }) (beginF g) h).2.max) == (Grant h (Int.tmod (IntKind.i64.wrap n) 15))) = true := by
            exact begins_x (begins_max _ g h h7) (.inl h8)
          cases h10 : (!(decide (0 < G ((beginF g).max) (Grant h (Int.tmod (IntKind.i64.wrap n) 15))))) with
          | true =>
            exact WindowBegins_way_5 g h n ok wf_g okh wf_h wn hd hbl hd2 hbl2 h0 h1 h2 h3 h4 h5 h6 h7 h8 h9 h10
          | false =>
            exact WindowBegins_way_6 g h n ok wf_g okh wf_h wn hd hbl hd2 hbl2 h0 h1 h2 h3 h4 h5 h6 h7 h8 h9 h10
theorem WindowBegins_row {w : World} (g : Sg) (A : Option Addr) (c : Nat) (ok : g.Ok A c w) (wf_g : g.Wf) (h : Sg) (B : Option Addr) (e : Nat) (okh : h.Ok B e w) (wf_h : h.Wf) (n : Int) (wn : (Lit.int .u8 n).wf = true) : Calls Try.prog 9 #[g.V A c, h.V B e, .int .u8 n] w fun e w' => e = .returned (.bool true) ∧ Below w.heap.size w w' := WindowBegins g h n ok wf_g okh wf_h wn
end Go.Proofs.Ytfgpcaadgfgkcaa.L17
