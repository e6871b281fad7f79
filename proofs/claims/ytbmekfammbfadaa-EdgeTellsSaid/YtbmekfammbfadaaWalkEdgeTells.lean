/- How far any segment goes, and lets the other side go, any window of any scale, and which scales count, is as the reference says: for every segment and all ints; no condition. -/
import Derived.Test.YtbmekfammbfadaaPAllx5
import Derived.Test.YtbmekfammbfadaaPAllx8
import Derived.Test.YtbmekfammbfadaaPAllx11
import Derived.Test.YtbmekfammbfadaaEdge
namespace Go.Proofs.Ytbmekfammbfadaa.PureE
open Go.RowKit Go.Proofs.Ytbmekfammbfadaa.PAll Go.Proofs.YtbmekfammbfadaaW.PrintWords Go.Proofs.YtbmekfammbfadaaW.PrintLast Go.Proofs.Ytbmekfammbfadaa.SeqnLem Go.Proofs.Ytbmekfammbfadaa.Edge
set_option linter.unusedVariables false
set_option linter.unusedSimpArgs false
def lightB (s : Sg) : Bool := decide (s.data.size ≤ 5000 ∧ s.blocks.length ≤ 20)
theorem light_f (s : Sg) : rampartlaw16_light.f s.src s.dst s.seq s.ack s.flags s.win s.urg s.mss s.scale s.sack s.blocks s.timed s.time s.echo s.data = some (lightB s) := by
  unfold rampartlaw16_light.f lightB
  by_cases h1 : s.data.size ≤ 5000
  · rw [if_pos (by omega)]
    exact congrArg some (decide_eq_decide.2 (by omega))
  · rw [if_neg (by omega), decide_eq_false (by omega)]
theorem known : rampartlaw16_known.f = some true := rfl
theorem tells (s : Sg) (hw : s.Wf) (x y : Int) (z : Bool) : rampartlaw16_EdgeTells.f (s.blocks.length + 15) s.src s.dst s.seq s.ack s.flags s.win s.urg s.mss s.scale s.sack s.blocks s.timed s.time s.echo s.data x y z = some true := by
  unfold rampartlaw16_EdgeTells.f
  rw [light_f, Option.bind_some]
  by_cases h : lightB s = true
  · rw [if_pos h]
    obtain ⟨h1, h2⟩ : s.data.size ≤ 5000 ∧ s.blocks.length ≤ 20 := of_decide_eq_true h
    have e1 : edge_End.f (s.blocks.length + 15) s.src s.dst s.seq s.ack s.flags s.win s.urg s.mss s.scale s.sack s.blocks s.timed s.time s.echo s.data = some (EndS s) := end_f s (s.blocks.length + 12) (by omega)
    have e2 := rend_f s hw (by omega)
    have e3 := rshift_f x y z s.blocks.length
    have e4 := rlast_f s hw (by omega) (s.blocks.length + 15) (by omega)
    have e5 := rgrant_f s hw (by omega) y (s.blocks.length + 15) (by omega) (by omega)
    rw [agree_f, ragree_f, e1, e2, shift_f, e3, last_f, e4, grant_f, e5, known]
    simp
  · rw [if_neg h, known]
    rfl
theorem EdgeTells {w : World} (s : Sg) (A : Option Addr) (c : Nat) (ok : s.Ok A c w) (wf : s.Wf) (x y : Int) (wx : (Lit.int .i64 x).wf = true) (wy : (Lit.int .i64 y).wf = true) (z : Bool) :
    Calls Try.prog 9 #[.agg #[.int .i64 s.src, .int .i64 s.dst, .int .u32 s.seq, .int .u32 s.ack, .int .i64 s.flags, .int .i64 s.win, .int .i64 s.urg, .int .i64 s.mss, .int .i64 s.scale, .bool s.sack, .slice A s.blocks.length c, .bool s.timed, .int .u32 s.time, .int .u32 s.echo, .string s.data], .agg #[.int .i64 x, .int .i64 y], .bool z] w fun e w' => e = .returned (.bool true) ∧ Below w.heap.size w w' :=
  rampartlaw16_EdgeTells.calls (s.blocks.length + 15) s.src s.dst s.seq s.ack s.flags s.win s.urg s.mss s.scale s.sack A c s.blocks s.timed s.time s.echo s.data x y z w ok.1 ok.2 (tells s wf x y z)
end Go.Proofs.Ytbmekfammbfadaa.PureE
