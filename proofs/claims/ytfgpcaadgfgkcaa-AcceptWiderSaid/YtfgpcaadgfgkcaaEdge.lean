/- A segment as one Lean record, and the contracts of the functions of tcp.Len, edge and their references over it. No conditions but those that each theorem names. -/
import Derived.Test.YtfgpcaadgfgkcaaPAllx1
import Derived.Test.YtfgpcaadgfgkcaaPAllx2
import Derived.Test.YtfgpcaadgfgkcaaPAllx4
import Derived.Test.YtfgpcaadgfgkcaaPAllx5
import Derived.Test.YtfgpcaadgfgkcaaPAllx6
import Derived.Test.YtfgpcaadgfgkcaaSeqnLem
import Derived.Test.YtfgpcaadgfgkcaaOpens
namespace Go.Proofs.Ytfgpcaadgfgkcaa.Edge
open Go.RowKit Go.Proofs.Ytfgpcaadgfgkcaa.PAll Go.Proofs.YtfgpcaadgfgkcaaW.PrintWords Go.Proofs.YtfgpcaadgfgkcaaW.PrintLast Go.Proofs.Ytfgpcaadgfgkcaa.SeqnLem Go.Proofs.Ytfgpcaadgfgkcaa.Opens

abbrev Blk := S44
/-- A segment. -/
structure Sg where
  src : Int
  dst : Int
  seq : Int
  ack : Int
  flags : Int
  win : Int
  urg : Int
  mss : Int
  scale : Int
  sack : Bool
  blocks : List Blk
  timed : Bool
  time : Int
  echo : Int
  data : ByteArray
/-- Its cells. -/
@[reducible] def Sg.C (s : Sg) (A : Option Addr) (c : Nat) : Array Value := #[.int .i64 s.src, .int .i64 s.dst, .int .u32 s.seq, .int .u32 s.ack, .int .i64 s.flags, .int .i64 s.win, .int .i64 s.urg, .int .i64 s.mss, .int .i64 s.scale, .bool s.sack, .slice A s.blocks.length c, .bool s.timed, .int .u32 s.time, .int .u32 s.echo, .string s.data]
@[reducible] def Sg.V (s : Sg) (A : Option Addr) (c : Nat) : Value := .agg (s.C A c)
/-- Its blocks are read in the world w. -/
def Sg.Ok (s : Sg) (A : Option Addr) (c : Nat) (w : World) : Prop := Kd.C k44 w A s.blocks.length s.blocks ∧ s.blocks.length ≤ c
theorem Sg.Ok.below {s : Sg} {A : Option Addr} {c : Nat} {w w' : World} (h : s.Ok A c w) (hb : Below w.heap.size w w') : s.Ok A c w' := ⟨Kd.C_below h.1 hb, h.2⟩
def Blk.Wf (b : Blk) : Prop := (0 ≤ b.f0 ∧ b.f0 ≤ 4294967295) ∧ 0 ≤ b.f1 ∧ b.f1 ≤ 4294967295
/-- Its numbers are of their kinds. -/
structure Sg.Wf (s : Sg) : Prop where
  seq : 0 ≤ s.seq ∧ s.seq ≤ 4294967295
  ack : 0 ≤ s.ack ∧ s.ack ≤ 4294967295
  flags : -9223372036854775808 ≤ s.flags ∧ s.flags ≤ 9223372036854775807
  win : -9223372036854775808 ≤ s.win ∧ s.win ≤ 9223372036854775807
  scale : -9223372036854775808 ≤ s.scale ∧ s.scale ≤ 9223372036854775807
  blocks : ∀ b, b ∈ s.blocks → Blk.Wf b
  src : (Lit.int .i64 s.src).wf = true
  dst : (Lit.int .i64 s.dst).wf = true
  urg : (Lit.int .i64 s.urg).wf = true
  mss : (Lit.int .i64 s.mss).wf = true
  time : (Lit.int .u32 s.time).wf = true
  echo : (Lit.int .u32 s.echo).wf = true

/-- A block of memory that holds one block of numbers. -/
theorem row_one {w : World} {g : Nat} {b : Blk} {t : TypeId} (h : w.heap[g]? = some (.cells #[.int .u32 b.f0, .int .u32 b.f1] t (0, 0))) : Kd.C k44 w (some ⟨g, 0, none⟩) 1 [b] := by
  refine ⟨rfl, by decide, fun _ => ⟨⟨g, 0, none⟩, rfl, fun j p hj => ?_⟩⟩
  cases j with
  | succ j => simp at hj
  | zero =>
    obtain rfl := Option.some.inj hj
    refine ⟨[.int .u32 b.f0, .int .u32 b.f1], rfl, k44_mk w b, fun i u hu => ?_⟩
    have h2 : (⟨g, 0, none⟩ : Addr).add (0 * 2 + i) = ⟨g, i, none⟩ := by
      unfold Addr.add
      cases i with
      | zero => rfl
      | succ i => simp
    show w.cell? ((⟨g, 0, none⟩ : Addr).add (0 * 2 + i)) = some u
    rw [h2, blk_cell h i, ← hu]
    simp
/-! ### flags -/
theorem and_bd (f : Int) (m : Nat) (hm : m < 4294967296) : 0 ≤ Go.bits .and .i64 f m ∧ Go.bits .and .i64 f m ≤ m := by
  unfold Go.bits
  have h1 : (BitVec.ofInt 64 f &&& BitVec.ofInt 64 (m : Int)).toNat ≤ m := by
    rw [BitVec.toNat_and]
    refine Nat.le_trans Nat.and_le_right ?_
    rw [BitVec.ofInt_natCast, BitVec.toNat_ofNat]
    exact Nat.mod_le _ _
  have h2 : IntKind.i64.wrap ((BitVec.ofInt 64 f &&& BitVec.ofInt 64 (m : Int)).toNat : Int) = ((BitVec.ofInt 64 f &&& BitVec.ofInt 64 (m : Int)).toNat : Int) := by
    rw [IntKind.wrap_i64]; omega
  show 0 ≤ IntKind.i64.wrap ((BitVec.ofInt 64 f &&& BitVec.ofInt 64 (m : Int)).toNat : Int) ∧ IntKind.i64.wrap ((BitVec.ofInt 64 f &&& BitVec.ofInt 64 (m : Int)).toNat : Int) ≤ m
  rw [h2]
  omega
abbrev Syn (f : Int) : Prop := Go.bits .and .i64 f 2 > 0
abbrev Fin_ (f : Int) : Prop := Go.bits .and .i64 f 1 > 0
abbrev Ack (f : Int) : Prop := Go.bits .and .i64 f 16 > 0
theorem and2 (f : Int) : 0 ≤ Go.bits .and .i64 f 2 ∧ Go.bits .and .i64 f 2 ≤ 2 := and_bd f 2 (by decide)
theorem and1 (f : Int) : 0 ≤ Go.bits .and .i64 f 1 ∧ Go.bits .and .i64 f 1 ≤ 1 := and_bd f 1 (by decide)
theorem and16 (f : Int) : 0 ≤ Go.bits .and .i64 f 16 ∧ Go.bits .and .i64 f 16 ≤ 16 := and_bd f 16 (by decide)
theorem syn0 (f : Int) : (Go.bits .and .i64 f 2 = 0) = ¬ Syn f := by
  have := and2 f
  unfold Syn
  exact propext (by constructor <;> intro h <;> omega)
theorem fin0 (f : Int) : (Go.bits .and .i64 f 1 = 0) = ¬ Fin_ f := by
  have := and1 f
  unfold Fin_
  exact propext (by constructor <;> intro h <;> omega)
theorem ack0 (f : Int) : (Go.bits .and .i64 f 16 = 0) = ¬ Ack f := by
  have := and16 f
  unfold Ack
  exact propext (by constructor <;> intro h <;> omega)

/-! ### what is computed -/
def Len (s : Sg) : Int := (s.data.size : Int) + (if Syn s.flags then 1 else 0) + (if Fin_ s.flags then 1 else 0)
def EndS (s : Sg) : Int := (s.seq + Len s) % 4294967296
def W0 (win : Int) : Int := mx 0 (mn win 65535)
def Shift (win scale : Int) (syn : Bool) : Int := if syn = true ∨ scale < 1 then W0 win else W0 win * 2 ^ (mn scale 14).toNat
def AgreeA (a b : Int) : Int := if a < 0 ∨ b < 0 then 0 else mn a 14
def later (a b : Int) : Int := if 0 < G a b then b else a
def lastOf (l : List Blk) (x : Int) : Int := l.foldl (fun x b => later x b.f1) x
def Last (s : Sg) : Int := lastOf s.blocks s.ack
def Grant (s : Sg) (scale : Int) : Int := (Last s + Shift s.win scale (decide (Syn s.flags))) % 4294967296

theorem W0_bd (w : Int) : 0 ≤ W0 w ∧ W0 w ≤ 65535 := by
  unfold W0 mx mn
  split <;> split <;> omega
theorem pow_bd (n : Nat) (h : n ≤ 14) : 1 ≤ (2 : Int) ^ n ∧ (2 : Int) ^ n ≤ 16384 := by
  have : n = 0 ∨ n = 1 ∨ n = 2 ∨ n = 3 ∨ n = 4 ∨ n = 5 ∨ n = 6 ∨ n = 7 ∨ n = 8 ∨ n = 9 ∨ n = 10 ∨ n = 11 ∨ n = 12 ∨ n = 13 ∨ n = 14 := by omega
  rcases this with h | h | h | h | h | h | h | h | h | h | h | h | h | h | h <;> subst h <;> decide
theorem mulpow_bd {x : Int} (hx : 0 ≤ x ∧ x ≤ 65535) (n : Nat) (h : n ≤ 14) : 0 ≤ x * 2 ^ n ∧ x * 2 ^ n ≤ 1073725440 := by
  have := pow_bd n h
  refine ⟨Int.mul_nonneg hx.1 (by omega), ?_⟩
  calc x * 2 ^ n ≤ 65535 * 2 ^ n := Int.mul_le_mul_of_nonneg_right hx.2 (by omega)
    _ ≤ 65535 * 16384 := Int.mul_le_mul_of_nonneg_left this.2 (by omega)
    _ = 1073725440 := by decide
theorem mn14 (a : Int) : mn a 14 ≤ 14 := by unfold mn; split <;> omega
theorem Shift_bd (w sc : Int) (b : Bool) : 0 ≤ Shift w sc b ∧ Shift w sc b ≤ 1073725440 := by
  have h := W0_bd w
  unfold Shift
  split
  · omega
  · exact mulpow_bd h _ (by have := mn14 sc; omega)

/-! ### the printed functions come to that -/
theorem len_f (s : Sg) (k : Nat) (hd : s.data.size ≤ 1000000) : tcp_Len.f (k + 3) s.src s.dst s.seq s.ack s.flags s.win s.urg s.mss s.scale s.sack s.blocks s.timed s.time s.echo s.data = some (Len s) := by
  unfold tcp_Len.f
  simp only [Option.bind_some]
  unfold tcp_Len.l0
  rw [if_pos (by decide), if_pos (by decide), if_pos (by decide)]
  have r0 : rd [2, 1] 0 = 2 := by decide
  have r1 : rd [2, 1] 1 = 1 := by decide
  have w1 : wrap64 (0 + 1) = 1 := w64 (by omega)
  have w2 : wrap64 (1 + 1) = 2 := w64 (by omega)
  have e1 : wrap64 ((s.data.size : Int) + 1) = (s.data.size : Int) + 1 := w64 (by omega)
  have e2 : wrap64 ((s.data.size : Int) + 1 + 1) = (s.data.size : Int) + 1 + 1 := w64 (by omega)
  rw [r0, w1]
  unfold Len
  by_cases h1 : Syn s.flags
  · rw [if_pos h1, if_pos h1, e1]
    unfold tcp_Len.l0
    rw [if_pos (by decide), if_pos (by decide), if_pos (by decide), r1, w2]
    by_cases h2 : Fin_ s.flags
    · rw [if_pos h2, if_pos h2, e2]
      unfold tcp_Len.l0
      rw [if_neg (by decide)]
    · rw [if_neg h2, if_neg h2]
      unfold tcp_Len.l0
      rw [if_neg (by decide), Int.add_zero]
  · rw [if_neg h1, if_neg h1]
    unfold tcp_Len.l0
    rw [if_pos (by decide), if_pos (by decide), if_pos (by decide), r1, w2]
    by_cases h2 : Fin_ s.flags
    · rw [if_pos h2, if_pos h2, e1]
      unfold tcp_Len.l0
      rw [if_neg (by decide), Int.add_zero]
    · rw [if_neg h2, if_neg h2]
      unfold tcp_Len.l0
      rw [if_neg (by decide), Int.add_zero, Int.add_zero]
theorem rlen_f (s : Sg) (hd : s.data.size ≤ 1000000) : rampartref08_Len.f s.src s.dst s.seq s.ack s.flags s.win s.urg s.mss s.scale s.sack s.blocks s.timed s.time s.echo s.data = some (Len s) := by
  unfold rampartref08_Len.f
  simp only [syn0, fin0]
  have e1 : wrap64 ((s.data.size : Int) + 1) = (s.data.size : Int) + 1 := w64 (by omega)
  have e2 : wrap64 ((s.data.size : Int) + 1 + 1) = (s.data.size : Int) + 1 + 1 := w64 (by omega)
  rw [e1, e2]
  unfold Len
  by_cases h1 : Syn s.flags <;> by_cases h2 : Fin_ s.flags <;> simp [h1, h2]
theorem Len_bd (s : Sg) (hd : s.data.size ≤ 1000000) : 0 ≤ Len s ∧ Len s ≤ 1000002 := by
  unfold Len
  split <;> split <;> omega
theorem end_f (s : Sg) (k : Nat) (hd : s.data.size ≤ 1000000) : edge_End.f (k + 3) s.src s.dst s.seq s.ack s.flags s.win s.urg s.mss s.scale s.sack s.blocks s.timed s.time s.echo s.data = some (EndS s) := by
  unfold edge_End.f
  rw [len_f s k hd, Option.bind_some, step_f]
  rfl
theorem rend_f (s : Sg) (hw : s.Wf) (hd : s.data.size ≤ 1000000) : rampartref16_End.f s.src s.dst s.seq s.ack s.flags s.win s.urg s.mss s.scale s.sack s.blocks s.timed s.time s.echo s.data = some (EndS s) := by
  unfold rampartref16_End.f
  rw [rlen_f s hd, Option.bind_some, rstep_f hw.seq]
  rfl
theorem shift_f (w sc : Int) (b : Bool) : edge_Shift.f w sc b = some (Shift w sc b) := by
  unfold edge_Shift.f Shift
  have h := W0_bd w
  by_cases h1 : b = true
  · rw [if_pos h1, if_pos (.inl h1)]; rfl
  · by_cases h2 : sc < 1
    · rw [if_neg h1, if_pos h2, if_pos (.inr h2)]; rfl
    · have h0 : ¬ (b = true ∨ sc < 1) := by rintro (z | z); exact h1 z; exact h2 z
      rw [if_neg h1, if_neg h2, if_neg h0]
      have h3 : 0 ≤ mn sc 14 := by unfold mn; split <;> omega
      rw [if_pos h3]
      have := mulpow_bd h (mn sc 14).toNat (by have := mn14 sc; omega)
      show some (wrap64 (W0 w * 2 ^ (mn sc 14).toNat)) = _
      rw [w64 (by omega)]
theorem rshift_l (sc : Int) (d : Nat) : ∀ (k : Nat) (i : Nat) (x : Int), (i : Int) + d = (if sc < 14 then sc else 14) → 0 ≤ x → x * 2 ^ d ≤ 1073725440 → d < k → rampartref16_Shift.l0 k sc x i = some (x * 2 ^ d) := by
  induction d with
  | zero =>
    intro k i x hi hx hb hk
    obtain ⟨k, rfl⟩ : ∃ m, k = m + 1 := ⟨k - 1, by omega⟩
    unfold rampartref16_Shift.l0
    split at hi
    · rw [if_neg (by omega)]; simp
    · by_cases h : (i : Int) < sc
      · rw [if_pos h, if_neg (by omega)]; simp
      · rw [if_neg h]; simp
  | succ d ih =>
    intro k i x hi hx hb hk
    obtain ⟨k, rfl⟩ : ∃ m, k = m + 1 := ⟨k - 1, by omega⟩
    unfold rampartref16_Shift.l0
    have h1 : (i : Int) < sc ∧ (i : Int) < 14 := by split at hi <;> omega
    have h2 : x * 2 ^ (d + 1) = 2 * x * 2 ^ d := by rw [Int.pow_succ, Int.mul_comm ((2 : Int) ^ d) 2, ← Int.mul_assoc, Int.mul_comm x 2]
    rw [h2] at hb
    have h3 : 2 * x ≤ 1073725440 := by
      have h4 : (1 : Int) ≤ 2 ^ d := by have := pow_bd d (by split at hi <;> omega); exact this.1
      have h5 : 2 * x * 1 ≤ 2 * x * 2 ^ d := Int.mul_le_mul_of_nonneg_left h4 (by omega)
      omega
    rw [if_pos h1.1, if_pos h1.2, w64 (by omega), w64 (a := (i : Int) + 1) (by omega)]
    have := ih k (i + 1) (2 * x) (by omega) (by omega) hb (by omega)
    rw [h2]
    exact this
theorem rshift_f (w sc : Int) (b : Bool) (k : Nat) : rampartref16_Shift.f (k + 15) w sc b = some (Shift w sc b) := by
  unfold rampartref16_Shift.f Shift
  have h := W0_bd w
  by_cases h1 : b = true
  · rw [if_pos h1, if_pos (.inl h1)]; rfl
  · rw [if_neg h1]
    show rampartref16_Shift.l0 (k + 15) sc (W0 w) 0 = _
    by_cases h2 : sc < 1
    · rw [if_pos (.inr h2)]
      unfold rampartref16_Shift.l0
      rw [if_neg (by omega)]
    · rw [if_neg (by rintro (h | h); exact h1 h; exact h2 h)]
      have h3 : mn sc 14 = if sc < 14 then sc else 14 := by unfold mn; split <;> split <;> omega
      have h4 : 0 ≤ mn sc 14 := by rw [h3]; split <;> omega
      have := mulpow_bd h (mn sc 14).toNat (by have := mn14 sc; omega)
      exact rshift_l sc (mn sc 14).toNat (k + 15) 0 (W0 w) (by rw [← h3]; omega) h.1 this.2 (by have := mn14 sc; omega)
theorem agree_f (a b : Int) : edge_Agree.f a b = some (AgreeA a b, AgreeA b a) := by
  unfold edge_Agree.f AgreeA mn
  by_cases h1 : a < 0 <;> by_cases h2 : b < 0 <;> simp [h1, h2] <;> (try omega)
  all_goals (split <;> (try omega))
theorem ragree_f (a b : Int) : rampartref16_Agree.f a b = some (AgreeA a b, AgreeA b a) := by
  unfold rampartref16_Agree.f AgreeA
  by_cases h1 : a < 0 <;> by_cases h2 : b < 0 <;> simp [h1, h2]
theorem later_bd {a b : Int} (ha : 0 ≤ a ∧ a ≤ 4294967295) (hb : 0 ≤ b ∧ b ≤ 4294967295) : 0 ≤ later a b ∧ later a b ≤ 4294967295 := by unfold later; split <;> assumption
theorem last_l (l : List Blk) : ∀ x, edge_Last.lp l x = some (lastOf l x) := by
  induction l with
  | nil => intro x; rfl
  | cons b r ih =>
    intro x
    unfold edge_Last.lp
    rw [later_f, Option.bind_some]
    exact ih _
theorem last_f (s : Sg) : edge_Last.f s.src s.dst s.seq s.ack s.flags s.win s.urg s.mss s.scale s.sack s.blocks s.timed s.time s.echo s.data = some (Last s) := last_l s.blocks s.ack
theorem lastOf_bd (l : List Blk) (hl : ∀ b, b ∈ l → Blk.Wf b) : ∀ x, 0 ≤ x ∧ x ≤ 4294967295 → 0 ≤ lastOf l x ∧ lastOf l x ≤ 4294967295 := by
  induction l with
  | nil => intro x hx; exact hx
  | cons b r ih =>
    intro x hx
    exact ih (fun c hc => hl c (List.mem_cons_of_mem _ hc)) _ (later_bd hx (hl b List.mem_cons_self).2)
theorem Last_bd (s : Sg) (hw : s.Wf) : 0 ≤ Last s ∧ Last s ≤ 4294967295 := lastOf_bd s.blocks hw.blocks s.ack hw.ack
theorem rlast_l (s : Sg) (hw : s.Wf) (hn : s.blocks.length ≤ 1000000) (d : Nat) : ∀ (k i : Nat) (x : Int), i + d = s.blocks.length → 0 ≤ x ∧ x ≤ 4294967295 → d < k →
    rampartref16_Last.l0 k x i s.src s.dst s.seq s.ack s.flags s.win s.urg s.mss s.scale s.sack s.blocks s.timed s.time s.echo s.data = some (lastOf (s.blocks.drop i) x) := by
  induction d with
  | zero =>
    intro k i x hi hx hk
    obtain ⟨k, rfl⟩ : ∃ m, k = m + 1 := ⟨k - 1, by omega⟩
    unfold rampartref16_Last.l0
    rw [if_neg (by omega), List.drop_eq_nil_of_le (by omega)]
    rfl
  | succ d ih =>
    intro k i x hi hx hk
    obtain ⟨k, rfl⟩ : ∃ m, k = m + 1 := ⟨k - 1, by omega⟩
    have hil : i < s.blocks.length := by omega
    have hr : rd_T44 s.blocks (i : Int) = s.blocks[i] := by simp [rd_T44, List.getD_eq_getElem?_getD, List.getElem?_eq_getElem hil]
    have hb := hw.blocks _ (List.getElem_mem hil)
    unfold rampartref16_Last.l0
    rw [if_pos (by omega), if_pos (by omega), hr, rlater_f hx hb.2, Option.bind_some, w64 (by omega), List.drop_eq_getElem_cons hil]
    exact ih k (i + 1) _ (by omega) (later_bd hx hb.2) (by omega)
theorem rlast_f (s : Sg) (hw : s.Wf) (hn : s.blocks.length ≤ 1000000) (k : Nat) (hk : s.blocks.length < k) : rampartref16_Last.f k s.src s.dst s.seq s.ack s.flags s.win s.urg s.mss s.scale s.sack s.blocks s.timed s.time s.echo s.data = some (Last s) := by
  have := rlast_l s hw hn s.blocks.length k 0 s.ack (by omega) hw.ack hk
  rw [List.drop_zero] at this
  exact this
theorem grant_f (s : Sg) (sc : Int) : edge_Grant.f s.src s.dst s.seq s.ack s.flags s.win s.urg s.mss s.scale s.sack s.blocks s.timed s.time s.echo s.data sc = some (Grant s sc) := by
  unfold edge_Grant.f
  rw [last_f, Option.bind_some, shift_f, Option.bind_some, step_f]
  rfl
theorem rgrant_f (s : Sg) (hw : s.Wf) (hn : s.blocks.length ≤ 1000000) (sc : Int) (k : Nat) (hk : s.blocks.length < k) (hk2 : 15 ≤ k) : rampartref16_Grant.f k s.src s.dst s.seq s.ack s.flags s.win s.urg s.mss s.scale s.sack s.blocks s.timed s.time s.echo s.data sc = some (Grant s sc) := by
  unfold rampartref16_Grant.f
  obtain ⟨j, rfl⟩ : ∃ j, k = j + 15 := ⟨k - 15, by omega⟩
  have h1 : (Go.bits .and .i64 s.flags 2 != 0) = decide (Syn s.flags) := by
    have := syn0 s.flags
    by_cases h : Syn s.flags
    · rw [bne_iff_ne.2 (by rw [ne_eq, this]; exact fun z => z h), decide_eq_true h]
    · rw [decide_eq_false h, bne_eq_false_iff_eq, this]
      exact h
  rw [rlast_f s hw hn _ hk, Option.bind_some, h1, rshift_f, Option.bind_some, rstep_f (Last_bd s hw)]
  rfl

/-! ### the contracts -/
section
variable {s : Sg} {A : Option Addr} {c : Nat} {w : World}
theorem c_len (ok : s.Ok A c w) (hd : s.data.size ≤ 1000000) : Calls Try.prog 63 #[s.V A c] w fun e w' => e = .returned (.int .i64 (Len s)) ∧ Below w.heap.size w w' :=
  tcp_Len.calls 3 s.src s.dst s.seq s.ack s.flags s.win s.urg s.mss s.scale s.sack A c s.blocks s.timed s.time s.echo s.data _ w ok.1 ok.2 (len_f s 0 hd)
theorem c_rlen (ok : s.Ok A c w) (hd : s.data.size ≤ 1000000) : Calls Try.prog 46 #[s.V A c] w fun e w' => e = .returned (.int .i64 (Len s)) ∧ Below w.heap.size w w' :=
  rampartref08_Len.calls s.src s.dst s.seq s.ack s.flags s.win s.urg s.mss s.scale s.sack A c s.blocks s.timed s.time s.echo s.data _ w ok.1 ok.2 (rlen_f s hd)
theorem c_end (ok : s.Ok A c w) (hd : s.data.size ≤ 1000000) : Calls Try.prog 48 #[s.V A c] w fun e w' => e = .returned (.int .u32 (EndS s)) ∧ Below w.heap.size w w' :=
  edge_End.calls 3 s.src s.dst s.seq s.ack s.flags s.win s.urg s.mss s.scale s.sack A c s.blocks s.timed s.time s.echo s.data _ w ok.1 ok.2 (end_f s 0 hd)
theorem c_rend (hw : s.Wf) (ok : s.Ok A c w) (hd : s.data.size ≤ 1000000) : Calls Try.prog 24 #[s.V A c] w fun e w' => e = .returned (.int .u32 (EndS s)) ∧ Below w.heap.size w w' :=
  rampartref16_End.calls s.src s.dst s.seq s.ack s.flags s.win s.urg s.mss s.scale s.sack A c s.blocks s.timed s.time s.echo s.data _ w ok.1 ok.2 (rend_f s hw hd)
theorem c_last (ok : s.Ok A c w) : Calls Try.prog 64 #[s.V A c] w fun e w' => e = .returned (.int .u32 (Last s)) ∧ Below w.heap.size w w' :=
  edge_Last.calls s.src s.dst s.seq s.ack s.flags s.win s.urg s.mss s.scale s.sack A c s.blocks s.timed s.time s.echo s.data _ w ok.1 ok.2 (last_f s)
theorem c_rlast (hw : s.Wf) (ok : s.Ok A c w) (hn : s.blocks.length ≤ 1000000) : Calls Try.prog 42 #[s.V A c] w fun e w' => e = .returned (.int .u32 (Last s)) ∧ Below w.heap.size w w' :=
  rampartref16_Last.calls (s.blocks.length + 1) s.src s.dst s.seq s.ack s.flags s.win s.urg s.mss s.scale s.sack A c s.blocks s.timed s.time s.echo s.data _ w ok.1 ok.2 (rlast_f s hw hn _ (Nat.lt_succ_self _))
theorem c_grant (sc : Int) (ok : s.Ok A c w) : Calls Try.prog 50 #[s.V A c, .int .i64 sc] w fun e w' => e = .returned (.int .u32 (Grant s sc)) ∧ Below w.heap.size w w' :=
  edge_Grant.calls s.src s.dst s.seq s.ack s.flags s.win s.urg s.mss s.scale s.sack A c s.blocks s.timed s.time s.echo s.data sc _ w ok.1 ok.2 (grant_f s sc)
theorem c_rgrant (sc : Int) (hw : s.Wf) (ok : s.Ok A c w) (hn : s.blocks.length ≤ 1000000) : Calls Try.prog 37 #[s.V A c, .int .i64 sc] w fun e w' => e = .returned (.int .u32 (Grant s sc)) ∧ Below w.heap.size w w' :=
  rampartref16_Grant.calls (s.blocks.length + 15) s.src s.dst s.seq s.ack s.flags s.win s.urg s.mss s.scale s.sack A c s.blocks s.timed s.time s.echo s.data sc _ w ok.1 ok.2 (rgrant_f s hw hn sc _ (by omega) (by omega))
end
section
variable {w : World}
theorem c_shift (win sc : Int) (b : Bool) : Calls Try.prog 49 #[.int .i64 win, .int .i64 sc, .bool b] w fun e w' => e = .returned (.int .i64 (Shift win sc b)) ∧ Below w.heap.size w w' :=
  (edge_Shift.calls win sc b _ w (shift_f win sc b)).mono fun _ _ ⟨h, hb⟩ => ⟨h, hb⟩
theorem c_rshift (win sc : Int) (b : Bool) : Calls Try.prog 52 #[.int .i64 win, .int .i64 sc, .bool b] w fun e w' => e = .returned (.int .i64 (Shift win sc b)) ∧ Below w.heap.size w w' :=
  rampartref16_Shift.calls 15 win sc b _ w (rshift_f win sc b 0)
theorem c_agree (a b : Int) : Calls Try.prog 53 #[.int .i64 a, .int .i64 b] w fun e w' => e = .returned (.tuple #[.int .i64 (AgreeA a b), .int .i64 (AgreeA b a)]) ∧ Below w.heap.size w w' :=
  edge_Agree.calls a b _ _ w (agree_f a b)
end
end Go.Proofs.Ytfgpcaadgfgkcaa.Edge
