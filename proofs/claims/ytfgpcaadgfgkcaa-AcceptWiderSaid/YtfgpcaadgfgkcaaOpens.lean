/- What an argument that can be read as data holds, in the words of the printed contracts: one lemma for each way that a type is made. No conditions. -/
import Derived.Test.YtfgpcaadgfgkcaaWWords
import Derived.Deep.Slices
import Derived.ChangeArms
import Derived.ChangeShapes
import Derived.ChangeMaps5
import Derived.WideShapes
namespace Go.Proofs.Ytfgpcaadgfgkcaa.Opens
open Go Go.Deep Go.WideShapes Go.ChangeShapes Go.Proofs.YtfgpcaadgfgkcaaW.PrintWords

section
variable {H : Type} {enc : TypeId × Value → H} {P : Program} {w : World} {base : Nat} {spare : Nat → Bool} {held : Bool}

/-- Whatever cells are read as a value of type t are a value of the kind d, of which wf is so. -/
def Opn {α : Type} (enc : TypeId × Value → H) (P : Program) (w : World) (base : Nat) (spare : Nat → Bool) (held : Bool) (d : Kd α) (wf : α → Prop) (t : TypeId) : Prop :=
  P.cellsOf t = d.sz ∧ ∀ fuel cs x, DataW.trod enc P w base spare held fuel t cs = some x → ∃ a, d.K w a cs ∧ wf a

/-- Likewise of types in line. -/
def OpnL {α : Type} (enc : TypeId × Value → H) (P : Program) (w : World) (base : Nat) (spare : Nat → Bool) (held : Bool) (d : Kd α) (wf : α → Prop) (ts : List TypeId) : Prop :=
  (ts.map P.cellsOf).sum = d.sz ∧ ∀ n cs, cs.length = (ts.map P.cellsOf).sum →
    (∀ i t, ts[i]? = some t → ∃ x, DataW.trod enc P w base spare held n t ((cs.drop ((ts.take i).map P.cellsOf).sum).take (P.cellsOf t)) = some x) → ∃ a, d.K w a cs ∧ wf a

theorem op_int {t : TypeId} {k : IntKind} (ht : P.underlying t = some (.int k)) (hc : P.cellsOf t = 1) : Opn enc P w base spare held (Kd.int k) (fun n => (Lit.int k n).wf = true) t := by
  refine ⟨hc, fun fuel cs x h => ?_⟩
  obtain ⟨n, rfl, _, hw⟩ := DataW.trod_int ht h
  exact ⟨n, rfl, hw⟩
theorem op_bool {t : TypeId} (ht : P.underlying t = some .bool) (hc : P.cellsOf t = 1) : Opn enc P w base spare held Kd.bool (fun _ => True) t := by
  refine ⟨hc, fun fuel cs x h => ?_⟩
  obtain ⟨b, rfl, _⟩ := DataW.trod_bool ht h
  exact ⟨b, rfl, trivial⟩
theorem op_string {t : TypeId} (ht : P.underlying t = some .string) (hc : P.cellsOf t = 1) : Opn enc P w base spare held Kd.string (fun s => s.size ≤ maxLen) t := by
  refine ⟨hc, fun fuel cs x h => ?_⟩
  obtain ⟨s, rfl, _, hs⟩ := DataW.trod_string ht h
  exact ⟨s, rfl, hs⟩
theorem op_slice {α : Type} {d : Kd α} {wf : α → Prop} {t e : TypeId} (ht : P.underlying t = some (.slice e)) (hc : P.cellsOf t = 1) (hd : Opn enc P w base spare held d wf e) :
    Opn enc P w base spare held (Kd.slice e d) (fun l => l.length ≤ maxLen ∧ ∀ a, a ∈ l → wf a) t := by
  refine ⟨hc, fun fuel cs x h => ?_⟩
  rcases open_slice ht h with ⟨rfl, _⟩ | ⟨a, len, cap, m, n, D, Pl, rfl, _, hl, hm, hmm, _, hi⟩
  · exact ⟨[], ⟨none, 0, rfl, Nat.le_refl _, Kd.C_nil d w⟩, by simp, fun a ha => by simp at ha⟩
  · have hle : len ≤ m := by rw [hmm]; split <;> omega
    have hex : ∀ i : Fin len, ∃ p : α, (∃ c, w.cells? base (a.add (i.1 * P.cellsOf e)) (P.cellsOf e) = some c ∧ d.K w p c) ∧ wf p := by
      intro i
      obtain ⟨cs', h1, h2⟩ := hi i.1 (by omega)
      obtain ⟨p, hp, hw⟩ := hd.2 _ _ _ h2
      exact ⟨p, ⟨cs', h1, hp⟩, hw⟩
    have hl0 : (List.ofFn fun i : Fin len => Classical.choose (hex i)).length = len := List.length_ofFn
    have hmax : len ≤ maxLen := Nat.le_trans hl hm
    refine ⟨List.ofFn fun i : Fin len => Classical.choose (hex i), ⟨some a, cap, by rw [hl0], by rw [hl0]; exact hl, by rw [hl0], by rw [hl0]; unfold maxLen at hmax; exact hmax, fun _ => ⟨a, rfl, fun j p hj => ?_⟩⟩, by rw [hl0]; exact hmax, fun p hp => ?_⟩
    · rw [List.getElem?_ofFn] at hj
      split at hj
      · rename_i hlt
        obtain rfl := Option.some.inj hj
        obtain ⟨c, hcc, hk⟩ := (Classical.choose_spec (hex ⟨j, hlt⟩)).1
        obtain ⟨_, hcl, hat⟩ := World.cells?_some hcc
        refine ⟨c, d.K_len hk, hk, fun i u hu => ?_⟩
        have hil : i < c.length := by
          rcases Nat.lt_or_ge i c.length with h0 | h0
          · exact h0
          · rw [List.getElem?_eq_none h0] at hu
            exact absurd hu (by simp)
        rw [← hd.1, ← Go.Deep.add_add, hat i (by omega)]
        exact hu
      · exact absurd hj (by simp)
    · obtain ⟨i, rfl⟩ := (List.mem_ofFn).1 hp
      exact (Classical.choose_spec (hex i)).2

theorem opl_one {α : Type} {d : Kd α} {wf : α → Prop} {t : TypeId} (hd : Opn enc P w base spare held d wf t) : OpnL enc P w base spare held d wf [t] := by
  refine ⟨by simpa using hd.1, fun n cs hl h => ?_⟩
  obtain ⟨x, hx⟩ := h 0 t rfl
  simp at hl hx
  rw [← hl, List.take_length] at hx
  exact hd.2 _ _ _ hx
theorem opl_cons {α β : Type} {d : Kd α} {d2 : Kd β} {wf : α → Prop} {wf2 : β → Prop} {t : TypeId} {ts : List TypeId} (hd : Opn enc P w base spare held d wf t) (h2 : OpnL enc P w base spare held d2 wf2 ts) :
    OpnL enc P w base spare held (Kd.pair d d2) (fun x => wf x.1 ∧ wf2 x.2) (t :: ts) := by
  refine ⟨by simp only [List.map_cons, List.sum_cons]; rw [hd.1, h2.1]; rfl, fun n cs hl h => ?_⟩
  simp only [List.map_cons, List.sum_cons] at hl
  obtain ⟨x, hx⟩ := h 0 t rfl
  simp at hx
  obtain ⟨a, ha, wa⟩ := hd.2 _ _ _ hx
  obtain ⟨b, hb, wb⟩ := h2.2 n (cs.drop (P.cellsOf t)) (by rw [List.length_drop]; omega) (fun i t' hi => by
    obtain ⟨y, hy⟩ := h (i + 1) t' (by simpa using hi)
    refine ⟨y, ?_⟩
    simp only [List.take_succ_cons, List.map_cons, List.sum_cons] at hy
    rw [List.drop_drop]
    exact hy)
  exact ⟨(a, b), ⟨cs.take (P.cellsOf t), cs.drop (P.cellsOf t), (List.take_append_drop _ _).symm, ha, hb⟩, wa, wb⟩
/-- The fields stand one behind the other. -/
def lined (P : Program) (fs : List Field) : Bool := (List.range fs.length).all fun i => match fs[i]? with | some f => f.offset == (((fs.map (·.type)).take i).map P.cellsOf).sum | none => true
theorem lined_at {fs : List Field} (h : lined P fs = true) (i : Nat) (f : Field) (hi : fs[i]? = some f) : f.offset = (((fs.map (·.type)).take i).map P.cellsOf).sum := by
  have hl : i < fs.length := by
    rcases Nat.lt_or_ge i fs.length with h0 | h0
    · exact h0
    · rw [List.getElem?_eq_none h0] at hi
      exact absurd hi (by simp)
  have := (List.all_eq_true.1 h) i (List.mem_range.2 hl)
  rw [hi] at this
  simpa using this
theorem op_struct {α β : Type} {d : Kd α} {wf : α → Prop} {t : TypeId} {fs : Array Field} {ts : List TypeId} (f : β → α) (g : α → β) (hfg : ∀ a, f (g a) = a) (ht : P.underlying t = some (.struct fs)) (hts : fs.toList.map (·.type) = ts)
    (hc : P.cellsOf t = (ts.map P.cellsOf).sum) (hlin : lined P fs.toList = true) (hd : OpnL enc P w base spare held d wf ts) : Opn enc P w base spare held (Kd.iso d f) (fun x => wf (f x)) t := by
  refine ⟨hc.trans hd.1, fun fuel cs x h => ?_⟩
  obtain ⟨xs, n, _, _, hlen, hxl, hf⟩ := DataW.trod_struct ht h
  obtain ⟨a, ha, wa⟩ := hd.2 n cs (hlen.trans hc) (fun i t' hi => by
    rw [← hts] at hi
    rw [List.getElem?_map] at hi
    obtain ⟨fl, hfl, rfl⟩ := Option.map_eq_some_iff.1 hi
    have hfl' : fs[i]? = some fl := by rw [← Array.getElem?_toList]; exact hfl
    have h1 := hf i fl hfl'
    rw [lined_at hlin i fl hfl, hts] at h1
    have hil : i < fs.size := (Array.getElem?_eq_some_iff.1 hfl').1
    exact ⟨_, h1.trans (List.getElem?_eq_getElem (by omega))⟩)
  refine ⟨g a, ?_, ?_⟩
  · show d.K w (f (g a)) cs
    rw [hfg]
    exact ha
  · show wf (f (g a))
    rw [hfg]
    exact wa
theorem sum_replicate (n c : Nat) : (List.replicate n c).sum = n * c := by
  induction n with
  | zero => simp
  | succ n ih => rw [List.replicate_succ, List.sum_cons, ih, Nat.succ_mul]; omega
theorem trod_array {t e : TypeId} {m fuel : Nat} {cs : List Value} {x : DataW H × List MemPlace} (ht : P.underlying t = some (.array m e)) (h : DataW.trod enc P w base spare held fuel t cs = some x) :
    ∃ n, cs.length = P.cellsOf t ∧ ∀ i, i < m → ∃ y, DataW.trod enc P w base spare held n e ((cs.drop (i * P.cellsOf e)).take (P.cellsOf e)) = some y := by
  cases fuel with
  | zero => simp [DataW.trod] at h
  | succ n =>
    unfold DataW.trod at h
    rw [ht] at h
    split at h <;> simp_all
    obtain ⟨_, xs, hp, _⟩ := h
    refine ⟨n, fun i hi => ?_⟩
    have h1 := mapM_some_get hp i i (List.getElem?_range hi)
    have h2 := mapM_some_length hp
    simp at h2
    have h3 := h1.trans (List.getElem?_eq_getElem (show i < xs.length by omega))
    exact ⟨_, _, h3⟩
theorem op_array {α β : Type} {d : Kd α} {wf : α → Prop} {t e : TypeId} {m : Nat} (f : β → α) (g : α → β) (hfg : ∀ a, f (g a) = a) (ht : P.underlying t = some (.array m e)) (hc : P.cellsOf t = m * P.cellsOf e)
    (hd : OpnL enc P w base spare held d wf (List.replicate m e)) : Opn enc P w base spare held (Kd.iso d f) (fun x => wf (f x)) t := by
  refine ⟨hc.trans ?_, fun fuel cs x h => ?_⟩
  · have := hd.1
    rw [List.map_replicate, sum_replicate] at this
    exact this
  obtain ⟨n, hlen, hf⟩ := trod_array ht h
  obtain ⟨a, ha, wa⟩ := hd.2 n cs (by rw [List.map_replicate, sum_replicate, hlen, hc]) (fun i t' hi => by
    rw [List.getElem?_replicate] at hi
    split at hi
    · rename_i hlt
      obtain rfl := Option.some.inj hi
      obtain ⟨y, hy⟩ := hf i hlt
      refine ⟨y, ?_⟩
      rw [List.take_replicate, List.map_replicate, sum_replicate, Nat.min_eq_left (by omega)]
      exact hy
    · exact absurd hi (by simp))
  refine ⟨g a, ?_, ?_⟩
  · show d.K w (f (g a)) cs
    rw [hfg]
    exact ha
  · show wf (f (g a))
    rw [hfg]
    exact wa
end
end Go.Proofs.Ytfgpcaadgfgkcaa.Opens
