/- What is granted goes on with the number that is said to have come, and grows with the window: for every segment, number and scale; no condition. -/
import Derived.Test.YtbmekfammbfadaaPAllx1
import Derived.Test.YtbmekfammbfadaaPAllx5
import Derived.Test.YtbmekfammbfadaaPAllx8
import Derived.Test.YtbmekfammbfadaaPAllx15
import Derived.Test.YtbmekfammbfadaaEdge
namespace Go.Proofs.Ytbmekfammbfadaa.PureE
open Go.RowKit Go.Proofs.Ytbmekfammbfadaa.PAll Go.Proofs.YtbmekfammbfadaaW.PrintWords Go.Proofs.YtbmekfammbfadaaW.PrintLast Go.Proofs.Ytbmekfammbfadaa.SeqnLem Go.Proofs.Ytbmekfammbfadaa.Edge
set_option linter.unusedVariables false
set_option linter.unusedSimpArgs false
def lightB (s : Sg) : Bool := decide (s.data.size ≤ 5000 ∧ s.blocks.length ≤ 20)
theorem light_f (s : Sg) : rampartlaw16_light.f s.src s.dst s.seq s.ack s.flags s.win s.urg s.mss s.scale s.sack s.blocks s.timed s.time s.echo s.data = some (lightB s) := by
  unfold rampartlaw16_light.f lightB
  by_cases h1 : s.data.size ≤ 5000
  · rw [if_pos (by omega)]
    exact congrArg some (decide_eq_decide.2 (by omega))
  · rw [if_neg (by omega), decide_eq_false (by omega)]
theorem known : rampartlaw16_known.f = some true := rfl
theorem j_true (k : Nat) (s : Sg) (n c : Int) : rampartlaw16_EdgeGrant.j0 (k + 1) n c true s.src s.dst s.seq s.ack s.flags s.win s.urg s.mss s.scale s.sack s.blocks s.timed s.time s.echo s.data = some true := by
  rw [rampartlaw16_EdgeGrant.j0, if_pos rfl, known]
  rfl
theorem grant (s : Sg) (hw : s.Wf) (n c : Int) (hn : 0 ≤ n ∧ n ≤ 65535) (hc : 0 ≤ c ∧ c ≤ 255) : rampartlaw16_EdgeGrant.f 1 s.src s.dst s.seq s.ack s.flags s.win s.urg s.mss s.scale s.sack s.blocks s.timed s.time s.echo s.data n c = some true := by
  unfold rampartlaw16_EdgeGrant.f
  rw [light_f, Option.bind_some]
  by_cases h : lightB s = true
  · rw [if_pos h]
    by_cases h1 : (s.blocks.length : Int) > 0
    · rw [if_pos h1]; exact j_true 0 s n c
    · rw [if_neg h1]
      by_cases h2 : s.win < 0
      · rw [if_pos h2]; exact j_true 0 s n c
      · rw [if_neg h2]
        by_cases h3 : s.win > 65535
        · rw [decide_eq_true h3]; exact j_true 0 s n c
        · rw [decide_eq_false h3, rampartlaw16_EdgeGrant.j0, if_neg (by simp)]
          have hb : s.blocks = [] := List.length_eq_zero_iff.1 (by omega)
          obtain ⟨k, hk⟩ : ∃ k, Int.tmod (wrap64 c) 15 = k := ⟨_, rfl⟩
          rw [hk, show n % 4294967296 = n by omega]
          have hla : Last s = s.ack := by unfold Last; rw [hb]; rfl
          have hsh := Shift_bd s.win k (decide (Syn s.flags))
          have hg : Grant s k = (s.ack + Shift s.win k (decide (Syn s.flags))) % 4294967296 := by unfold Grant; rw [hla]
          have ha := hw.ack
          have e1 := grant_f { s with ack := (s.ack + n) % 4294967296 } k
          have e2 := grant_f { s with win := 0 } k
          have e3 := grant_f s k
          have v1 : Grant { s with ack := (s.ack + n) % 4294967296 } k = (Grant s k + n) % 4294967296 := by
            rw [hg]
            unfold Grant Last
            simp only [hb]
            show ((s.ack + n) % 4294967296 + Shift s.win k (decide (Syn s.flags))) % 4294967296 = _
            omega
          have v2 : Grant { s with win := 0 } k = s.ack := by
            unfold Grant Last
            simp only [hb]
            have hz : Shift 0 k (decide (Syn s.flags)) = 0 := by
              unfold Shift
              have h0 : W0 0 = 0 := by unfold W0 mx mn; simp
              rw [h0]
              split <;> omega
            rw [hz]
            show (s.ack + 0) % 4294967296 = s.ack
            omega
          have hgb : 0 ≤ Grant s k ∧ Grant s k ≤ 4294967295 := by rw [hg]; omega
          have e4 : rampartref03_Upto.f s.ack (Grant s k) = some true := by
            rw [rupto_f ha hgb, decide_eq_true]
            unfold G
            rw [hg]
            split <;> omega
          simp only at e1 e2
          rw [v1] at e1
          rw [v2] at e2
          rw [e1, e2, e3, known]
          simp [e4]
  · rw [if_neg h]; exact j_true 0 s n c
theorem EdgeGrant {w : World} (s : Sg) (A : Option Addr) (c : Nat) (ok : s.Ok A c w) (wf : s.Wf) (n : Int) (wn : (Lit.int .u16 n).wf = true) (k : Int) (wk : (Lit.int .u8 k).wf = true) :
    Calls Try.prog 13 #[.agg #[.int .i64 s.src, .int .i64 s.dst, .int .u32 s.seq, .int .u32 s.ack, .int .i64 s.flags, .int .i64 s.win, .int .i64 s.urg, .int .i64 s.mss, .int .i64 s.scale, .bool s.sack, .slice A s.blocks.length c, .bool s.timed, .int .u32 s.time, .int .u32 s.echo, .string s.data], .int .u16 n, .int .u8 k] w fun e w' => e = .returned (.bool true) ∧ Below w.heap.size w w' :=
  rampartlaw16_EdgeGrant.calls 1 s.src s.dst s.seq s.ack s.flags s.win s.urg s.mss s.scale s.sack A c s.blocks s.timed s.time s.echo s.data n k w ok.1 ok.2 (grant s wf n k (u16_b wn) (u8_b wk))
end Go.Proofs.Ytbmekfammbfadaa.PureE
