/- The latest number is Ack, or a block's end; none of one block is later, if it is near: for every segment; no condition. -/
import Derived.Test.YtbmekfammbfadaaPAllx1
import Derived.Test.YtbmekfammbfadaaPAllx5
import Derived.Test.YtbmekfammbfadaaPAllx8
import Derived.Test.YtbmekfammbfadaaPAllx14
import Derived.Test.YtbmekfammbfadaaEdge
namespace Go.Proofs.Ytbmekfammbfadaa.PureE
open Go.RowKit Go.Proofs.Ytbmekfammbfadaa.PAll Go.Proofs.YtbmekfammbfadaaW.PrintWords Go.Proofs.YtbmekfammbfadaaW.PrintLast Go.Proofs.Ytbmekfammbfadaa.SeqnLem Go.Proofs.Ytbmekfammbfadaa.Edge
set_option linter.unusedVariables false
set_option linter.unusedSimpArgs false
def lightB (s : Sg) : Bool := decide (s.data.size ≤ 5000 ∧ s.blocks.length ≤ 20)
theorem light_f (s : Sg) : rampartlaw16_light.f s.src s.dst s.seq s.ack s.flags s.win s.urg s.mss s.scale s.sack s.blocks s.timed s.time s.echo s.data = some (lightB s) := by
  unfold rampartlaw16_light.f lightB
  by_cases h1 : s.data.size ≤ 5000
  · rw [if_pos (by omega)]
    exact congrArg some (decide_eq_decide.2 (by omega))
  · rw [if_neg (by omega), decide_eq_false (by omega)]
theorem known : rampartlaw16_known.f = some true := rfl
def Near (a v : Int) : Prop := -536870912 < G a v ∧ G a v < 536870912
theorem gdiff {a u v : Int} (hu : Near a u) (hv : Near a v) : G u v = G a v - G a u := by
  unfold Near at hu hv
  unfold G at hu hv ⊢
  split at hu <;> split at hv <;> split <;> omega
theorem maxi (a : Int) (l : List Blk) : ∀ x, Near a x → (∀ b, b ∈ l → Near a b.f1) → Near a (lastOf l x) ∧ G a x ≤ G a (lastOf l x) ∧ ∀ b, b ∈ l → G a b.f1 ≤ G a (lastOf l x) := by
  induction l with
  | nil => intro x hx h; exact ⟨hx, Int.le_refl _, fun b hb => by simp at hb⟩
  | cons b r ih =>
    intro x hx h
    have hb := h b List.mem_cons_self
    have hd := gdiff hx hb
    have hn : Near a (later x b.f1) := by unfold later; split <;> assumption
    have hm : G a x ≤ G a (later x b.f1) ∧ G a b.f1 ≤ G a (later x b.f1) := by unfold later; split <;> omega
    obtain ⟨h1, h2, h3⟩ := ih (later x b.f1) hn (fun c hc => h c (List.mem_cons_of_mem _ hc))
    refine ⟨h1, Int.le_trans hm.1 h2, fun c hc => ?_⟩
    rcases List.mem_cons.1 hc with rfl | hc
    · exact Int.le_trans hm.2 h2
    · exact h3 c hc
theorem one_of (l : List Blk) : ∀ x, lastOf l x = x ∨ ∃ b, b ∈ l ∧ lastOf l x = b.f1 := by
  induction l with
  | nil => intro x; exact .inl rfl
  | cons b r ih =>
    intro x
    rcases ih (later x b.f1) with h | ⟨c, hc, h⟩
    · by_cases hg : 0 < G x b.f1
      · refine .inr ⟨b, List.mem_cons_self, ?_⟩
        show lastOf r (later x b.f1) = _
        rw [h]; unfold later; rw [if_pos hg]
      · refine .inl ?_
        show lastOf r (later x b.f1) = _
        rw [h]; unfold later; rw [if_neg hg]
    · exact .inr ⟨c, List.mem_cons_of_mem _ hc, h⟩
theorem rd_at (l : List Blk) (i : Nat) (h : i < l.length) : rd_T49 l (i : Int) = l[i] := by simp [rd_T49, List.getD_eq_getElem?_getD, List.getElem?_eq_getElem h]
theorem loop0 (s : Sg) (hw : s.Wf) (hn : s.blocks.length ≤ 1000000) (x : Int) (d : Nat) : ∀ (k i : Nat) (is near : Bool), i + d = s.blocks.length →
    ∃ is' near' : Bool, (is' = true ↔ is = true ∨ ∃ b, b ∈ s.blocks.drop i ∧ x = b.f1) ∧ (near' = true ↔ near = true ∧ ∀ b, b ∈ s.blocks.drop i → Near s.ack b.f1) ∧
      rampartlaw16_EdgeLast.l0 (k + d + 1) x is near i s.src s.dst s.seq s.ack s.flags s.win s.urg s.mss s.scale s.sack s.blocks s.timed s.time s.echo s.data = rampartlaw16_EdgeLast.l1 k x is' near' 0 s.src s.dst s.seq s.ack s.flags s.win s.urg s.mss s.scale s.sack s.blocks s.timed s.time s.echo s.data := by
  induction d with
  | zero =>
    intro k i is near hi
    refine ⟨is, near, ?_, ?_, ?_⟩
    · rw [List.drop_eq_nil_of_le (by omega)]; simp
    · rw [List.drop_eq_nil_of_le (by omega)]; simp
    · rw [show k + 0 + 1 = k + 1 from rfl, rampartlaw16_EdgeLast.l0, if_neg (by omega)]
  | succ d ih =>
    intro k i is near hi
    have hil : i < s.blocks.length := by omega
    have hb := hw.blocks _ (List.getElem_mem hil)
    have e : wrap64 ((i : Int) + 1) = ((i + 1 : Nat) : Int) := by rw [w64 (by omega)]; omega
    have hdr := List.drop_eq_getElem_cons hil
    have hg := rgap_f hw.ack hb.2
    have hstep : ∀ (is2 near2 : Bool), (is2 = true ↔ is = true ∨ x = s.blocks[i].f1) → (near2 = true ↔ near = true ∧ Near s.ack s.blocks[i].f1) → rampartlaw16_EdgeLast.l0 (k + (d + 1) + 1) x is near i s.src s.dst s.seq s.ack s.flags s.win s.urg s.mss s.scale s.sack s.blocks s.timed s.time s.echo s.data = rampartlaw16_EdgeLast.l0 (k + d + 1) x is2 near2 ((i + 1 : Nat) : Int) s.src s.dst s.seq s.ack s.flags s.win s.urg s.mss s.scale s.sack s.blocks s.timed s.time s.echo s.data →
        ∃ is' near' : Bool, (is' = true ↔ is = true ∨ ∃ b, b ∈ s.blocks.drop i ∧ x = b.f1) ∧ (near' = true ↔ near = true ∧ ∀ b, b ∈ s.blocks.drop i → Near s.ack b.f1) ∧
          rampartlaw16_EdgeLast.l0 (k + (d + 1) + 1) x is near i s.src s.dst s.seq s.ack s.flags s.win s.urg s.mss s.scale s.sack s.blocks s.timed s.time s.echo s.data = rampartlaw16_EdgeLast.l1 k x is' near' 0 s.src s.dst s.seq s.ack s.flags s.win s.urg s.mss s.scale s.sack s.blocks s.timed s.time s.echo s.data := by
      intro is2 near2 h1 h2 h3
      obtain ⟨is', near', a1, a2, a3⟩ := ih k (i + 1) is2 near2 (by omega)
      refine ⟨is', near', ?_, ?_, h3.trans a3⟩
      · rw [a1, h1, hdr]
        constructor
        · rintro ((h | h) | ⟨b, hb, h⟩)
          · exact .inl h
          · exact .inr ⟨_, List.mem_cons_self, h⟩
          · exact .inr ⟨b, List.mem_cons_of_mem _ hb, h⟩
        · rintro (h | ⟨b, hb, h⟩)
          · exact .inl (.inl h)
          · rcases List.mem_cons.1 hb with rfl | hb
            · exact .inl (.inr h)
            · exact .inr ⟨b, hb, h⟩
      · rw [a2, h2, hdr]
        constructor
        · rintro ⟨⟨h, h'⟩, h''⟩
          refine ⟨h, fun b hb => ?_⟩
          rcases List.mem_cons.1 hb with rfl | hb
          · exact h'
          · exact h'' b hb
        · rintro ⟨h, h'⟩
          exact ⟨⟨h, h' _ List.mem_cons_self⟩, fun b hb => h' b (List.mem_cons_of_mem _ hb)⟩
    have hnear : Near s.ack s.blocks[i].f1 ↔ G s.ack s.blocks[i].f1 > -536870912 ∧ G s.ack s.blocks[i].f1 < 536870912 := Iff.rfl
    cases is with
    | true =>
      cases near with
      | true =>
        by_cases h1 : G s.ack s.blocks[i].f1 > -536870912
        · refine hstep true (decide (G s.ack s.blocks[i].f1 < 536870912)) (by simp) (by rw [hnear]; simp [h1]) ?_
          rw [show k + (d + 1) + 1 = (k + d + 1) + 1 from rfl, rampartlaw16_EdgeLast.l0, if_pos (by omega), if_pos rfl, if_pos (by omega), rd_at _ _ hil, hg, Option.bind_some, if_pos rfl, if_pos h1, e]
        · refine hstep true false (by simp) (by rw [hnear]; simp [h1]) ?_
          rw [show k + (d + 1) + 1 = (k + d + 1) + 1 from rfl, rampartlaw16_EdgeLast.l0, if_pos (by omega), if_pos rfl, if_pos (by omega), rd_at _ _ hil, hg, Option.bind_some, if_pos rfl, if_neg h1, e]
      | false =>
        refine hstep true false (by simp) (by simp) ?_
        rw [show k + (d + 1) + 1 = (k + d + 1) + 1 from rfl, rampartlaw16_EdgeLast.l0, if_pos (by omega), if_pos rfl, if_pos (by omega), rd_at _ _ hil, hg, Option.bind_some, if_neg (by simp), e]
    | false =>
      cases near with
      | true =>
        by_cases h1 : G s.ack s.blocks[i].f1 > -536870912
        · refine hstep (x == s.blocks[i].f1) (decide (G s.ack s.blocks[i].f1 < 536870912)) (by simp) (by rw [hnear]; simp [h1]) ?_
          rw [show k + (d + 1) + 1 = (k + d + 1) + 1 from rfl, rampartlaw16_EdgeLast.l0, if_pos (by omega), if_neg (by simp), if_pos (by omega), rd_at _ _ hil, hg, Option.bind_some, if_pos rfl, if_pos h1, e]
        · refine hstep (x == s.blocks[i].f1) false (by simp) (by rw [hnear]; simp [h1]) ?_
          rw [show k + (d + 1) + 1 = (k + d + 1) + 1 from rfl, rampartlaw16_EdgeLast.l0, if_pos (by omega), if_neg (by simp), if_pos (by omega), rd_at _ _ hil, hg, Option.bind_some, if_pos rfl, if_neg h1, e]
      | false =>
        refine hstep (x == s.blocks[i].f1) false (by simp) (by simp) ?_
        rw [show k + (d + 1) + 1 = (k + d + 1) + 1 from rfl, rampartlaw16_EdgeLast.l0, if_pos (by omega), if_neg (by simp), if_pos (by omega), rd_at _ _ hil, hg, Option.bind_some, if_neg (by simp), e]
theorem loop1 (s : Sg) (hw : s.Wf) (hn : s.blocks.length ≤ 1000000) (x : Int) (hx : 0 ≤ x ∧ x ≤ 4294967295) (hb : ∀ b, b ∈ s.blocks → ¬ 0 < G x b.f1) (hu : 0 ≤ G s.ack x) (d : Nat) : ∀ (k i : Nat), i + d = s.blocks.length →
    rampartlaw16_EdgeLast.l1 (k + 2 * d + 2) x true true i s.src s.dst s.seq s.ack s.flags s.win s.urg s.mss s.scale s.sack s.blocks s.timed s.time s.echo s.data = some true := by
  induction d with
  | zero =>
    intro k i hi
    rw [show k + 2 * 0 + 2 = k + 1 + 1 from rfl, rampartlaw16_EdgeLast.l1, if_neg (by omega), rampartlaw16_EdgeLast.j2, if_neg (by simp), if_pos rfl, if_pos rfl, rupto_f hw.ack hx, Option.bind_some, if_pos (decide_eq_true hu), known]
    rfl
  | succ d ih =>
    intro k i hi
    have hil : i < s.blocks.length := by omega
    have hbl := hw.blocks _ (List.getElem_mem hil)
    have e : wrap64 ((i : Int) + 1) = ((i + 1 : Nat) : Int) := by rw [w64 (by omega)]; omega
    rw [show k + 2 * (d + 1) + 2 = (k + 2 * d + 2) + 1 + 1 by omega, rampartlaw16_EdgeLast.l1, if_pos (by omega), rampartlaw16_EdgeLast.j2, if_pos rfl, if_pos (by omega), if_pos (by omega), rd_at _ _ hil, rbefore_f hx hbl.2, Option.bind_some, if_neg (by simpa using hb _ (List.getElem_mem hil)), e]
    exact ih k (i + 1) (by omega)
theorem loop1f (s : Sg) (x : Int) (k : Nat) : rampartlaw16_EdgeLast.l1 (k + 2) x true false 0 s.src s.dst s.seq s.ack s.flags s.win s.urg s.mss s.scale s.sack s.blocks s.timed s.time s.echo s.data = some true := by
  rw [show k + 2 = k + 1 + 1 from rfl, rampartlaw16_EdgeLast.l1]
  split
  · rw [rampartlaw16_EdgeLast.j2, if_neg (by simp), if_pos rfl, if_neg (by simp), known]; rfl
  · rw [rampartlaw16_EdgeLast.j2, if_neg (by simp), if_pos rfl, if_neg (by simp), known]; rfl
theorem lasts (s : Sg) (hw : s.Wf) : rampartlaw16_EdgeLast.f (3 * s.blocks.length + 3) s.src s.dst s.seq s.ack s.flags s.win s.urg s.mss s.scale s.sack s.blocks s.timed s.time s.echo s.data = some true := by
  unfold rampartlaw16_EdgeLast.f
  rw [light_f, Option.bind_some]
  by_cases h : lightB s = true
  · rw [if_pos h, last_f, Option.bind_some]
    obtain ⟨h1, h2⟩ : s.data.size ≤ 5000 ∧ s.blocks.length ≤ 20 := of_decide_eq_true h
    have hx := Last_bd s hw
    obtain ⟨is', near', a1, a2, a3⟩ := loop0 s hw (by omega) (Last s) s.blocks.length (2 * s.blocks.length + 2) 0 (Last s == s.ack) true (by omega)
    rw [show 3 * s.blocks.length + 3 = 2 * s.blocks.length + 2 + s.blocks.length + 1 by omega]
    refine Eq.trans a3 ?_
    have hi : is' = true := by
      rw [a1, List.drop_zero, beq_iff_eq]
      rcases one_of s.blocks s.ack with h | ⟨b, hb, h⟩
      · exact .inl h
      · exact .inr ⟨b, hb, h⟩
    rw [hi]
    cases hne : near' with
    | false => exact loop1f s (Last s) (2 * s.blocks.length)
    | true =>
      rw [hne] at a2
      obtain ⟨_, hall⟩ := a2.1 rfl
      rw [List.drop_zero] at hall
      have h0 : Near s.ack s.ack := by unfold Near G; simp
      obtain ⟨m1, m2, m3⟩ := maxi s.ack s.blocks s.ack h0 hall
      have hz : G s.ack s.ack = 0 := by unfold G; simp
      have := loop1 s hw (by omega) (Last s) hx (fun b hb => by
        have := gdiff m1 (hall b hb)
        have h3 := m3 b hb
        show ¬ 0 < G (lastOf s.blocks s.ack) b.f1
        omega) (by show 0 ≤ G s.ack (lastOf s.blocks s.ack); omega) s.blocks.length 0 0 (by omega)
      rw [show 0 + 2 * s.blocks.length + 2 = 2 * s.blocks.length + 2 by omega] at this
      exact this
  · rw [if_neg h, known]
    rfl
theorem EdgeLast {w : World} (s : Sg) (A : Option Addr) (c : Nat) (ok : s.Ok A c w) (wf : s.Wf) :
    Calls Try.prog 12 #[.agg #[.int .i64 s.src, .int .i64 s.dst, .int .u32 s.seq, .int .u32 s.ack, .int .i64 s.flags, .int .i64 s.win, .int .i64 s.urg, .int .i64 s.mss, .int .i64 s.scale, .bool s.sack, .slice A s.blocks.length c, .bool s.timed, .int .u32 s.time, .int .u32 s.echo, .string s.data]] w fun e w' => e = .returned (.bool true) ∧ Below w.heap.size w w' :=
  rampartlaw16_EdgeLast.calls (3 * s.blocks.length + 3) s.src s.dst s.seq s.ack s.flags s.win s.urg s.mss s.scale s.sack A c s.blocks s.timed s.time s.echo s.data w ok.1 ok.2 (lasts s wf)
end Go.Proofs.Ytbmekfammbfadaa.PureE
