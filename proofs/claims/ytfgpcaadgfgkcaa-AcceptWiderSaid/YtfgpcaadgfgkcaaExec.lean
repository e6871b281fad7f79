/- A program that carries out a Go function's body along one way, over values that may point to blocks of the call's own; and the proof that the call then does the same. No condition on any input. -/
import Derived.Test.YtfgpcaadgfgkcaaWLast
import Derived.Test.YtfgpcaadgfgkcaaWTab
import Derived.Below
import Derived.Laws.CopyRow
import Derived.ChangeKeysEq
import Derived.KernelRfl
import Derived.Laws.StructEq
namespace Go.Proofs.Ytfgpcaadgfgkcaa.Exec
open Go.RowKit Go.Proofs.YtfgpcaadgfgkcaaW.PrintLast
set_option linter.unusedVariables false
set_option linter.unusedSimpArgs false

/-! ### values: those of Go, and addresses in the call's own blocks (by number) -/
inductive PV where
  | v (x : Value)
  | p (i off : Nat)
inductive C where
  | v (x : Value)
  | p (i off : Nat)
  | sl (i off len cap : Nat)
  | fn (f : Fn) (first cap : List PV)
  /-- A row that grew: the slice itself. -/
  | u (i len : Nat)
inductive AV where
  | one (c : C)
  | ag (cs : List C)
inductive FV where
  | av (a : AV)
  | tu (l : List AV)

def PV.den (γ : Nat → Nat × Nat) : PV → Value
  | .v x => x
  | .p i off => .pointer (some ⟨(γ i).1, off, none⟩)
def C.den (γ : Nat → Nat × Nat) : C → Value
  | .v x => x
  | .p i off => .pointer (some ⟨(γ i).1, off, none⟩)
  | .sl i off len cap => .slice (some ⟨(γ i).1, off, none⟩) len cap
  | .fn f a b => .func f (a.map (PV.den γ)).toArray (b.map (PV.den γ)).toArray
  | .u i len => .slice (some ⟨(γ i).1, 0, none⟩) len (γ i).2
def AV.den (γ : Nat → Nat × Nat) : AV → Value
  | .one c => c.den γ
  | .ag cs => .agg (cs.map (C.den γ)).toArray
def FV.den (γ : Nat → Nat × Nat) : FV → Value
  | .av a => a.den γ
  | .tu l => .tuple (l.map (AV.den γ)).toArray
def PV.sc (S : Nat → Prop) : PV → Prop
  | .v _ => True
  | .p i _ => S i
def C.sc (S : Nat → Prop) : C → Prop
  | .v _ => True
  | .p i _ => S i
  | .sl i _ _ _ => S i
  | .fn _ a b => (∀ x ∈ a, PV.sc S x) ∧ ∀ x ∈ b, PV.sc S x
  | .u i _ => S i
def AV.sc (S : Nat → Prop) : AV → Prop
  | .one c => c.sc S
  | .ag cs => ∀ c ∈ cs, C.sc S c
def FV.sc (S : Nat → Prop) : FV → Prop
  | .av a => a.sc S
  | .tu l => ∀ a ∈ l, AV.sc S a
section
variable {γ γ' : Nat → Nat × Nat} {S S' : Nat → Prop}
theorem PV.agree (h : ∀ i, S i → γ i = γ' i) : ∀ {c : PV}, c.sc S → c.den γ = c.den γ'
  | .v _, _ => rfl
  | .p i off, hc => by simp only [PV.den]; rw [h i hc]
theorem C.agree (h : ∀ i, S i → γ i = γ' i) : ∀ {c : C}, c.sc S → c.den γ = c.den γ'
  | .v _, _ => rfl
  | .p i off, hc => by simp only [C.den]; rw [h i hc]
  | .sl i off l k, hc => by simp only [C.den]; rw [h i hc]
  | .fn f a b, hc => by
    simp only [C.den]
    rw [List.map_congr_left (fun x hx => PV.agree h (hc.1 x hx)), List.map_congr_left (fun x hx => PV.agree h (hc.2 x hx))]
  | .u i _, hc => by simp only [C.den]; rw [h i hc]
theorem AV.agree (h : ∀ i, S i → γ i = γ' i) : ∀ {c : AV}, c.sc S → c.den γ = c.den γ'
  | .one c, hc => C.agree h hc
  | .ag cs, hc => by
    simp only [AV.den]
    rw [List.map_congr_left (fun x hx => C.agree h (hc x hx))]
theorem FV.agree (h : ∀ i, S i → γ i = γ' i) : ∀ {c : FV}, c.sc S → c.den γ = c.den γ'
  | .av c, hc => AV.agree h hc
  | .tu cs, hc => by
    simp only [FV.den]
    rw [List.map_congr_left (fun x hx => AV.agree h (hc x hx))]
theorem PV.sc_mono (h : ∀ i, S i → S' i) : ∀ {c : PV}, c.sc S → c.sc S'
  | .v _, _ => trivial
  | .p _ _, hc => h _ hc
theorem C.sc_mono (h : ∀ i, S i → S' i) : ∀ {c : C}, c.sc S → c.sc S'
  | .v _, _ => trivial
  | .p _ _, hc => h _ hc
  | .sl _ _ _ _, hc => h _ hc
  | .fn _ _ _, hc => ⟨fun x hx => PV.sc_mono h (hc.1 x hx), fun x hx => PV.sc_mono h (hc.2 x hx)⟩
  | .u _ _, hc => h _ hc
theorem AV.sc_mono (h : ∀ i, S i → S' i) : ∀ {c : AV}, c.sc S → c.sc S'
  | .one _, hc => C.sc_mono h hc
  | .ag _, hc => fun c hm => C.sc_mono h (hc c hm)
theorem FV.sc_mono (h : ∀ i, S i → S' i) : ∀ {c : FV}, c.sc S → c.sc S'
  | .av _, hc => AV.sc_mono h hc
  | .tu _, hc => fun c hm => AV.sc_mono h (hc c hm)
end

/-! ### states -/
structure Bl where
  cs : List C
  ty : TypeId
/-- What a number stands for: a block; a row that grew (its cells, their elements' type and size); nothing any more. -/
inductive Ent where
  | b (x : Bl)
  | r (cs : List C) (ty : TypeId) (sz : Nat)
  | d
/-- The call's own blocks, by number. -/
abbrev Hp := List (Option Ent)
def getE : Hp → Nat → Option Ent
  | [], _ => none
  | x :: _, 0 => x
  | _ :: r, n + 1 => getE r n
def setE : Hp → Nat → Ent → Hp
  | [], 0, b => [some b]
  | [], n + 1, b => none :: setE [] n b
  | _ :: r, 0, b => some b :: r
  | x :: r, n + 1, b => x :: setE r n b
theorem getE_self : ∀ (hp : Hp) (i : Nat) (b : Ent), getE (setE hp i b) i = some b
  | [], 0, _ => rfl
  | [], n + 1, b => getE_self [] n b
  | _ :: _, 0, _ => rfl
  | _ :: r, n + 1, b => getE_self r n b
theorem getE_ne : ∀ (hp : Hp) (i j : Nat) (b : Ent), i ≠ j → getE (setE hp i b) j = getE hp j
  | [], 0, 0, _, h => absurd rfl h
  | [], 0, _ + 1, _, _ => rfl
  | [], _ + 1, 0, _, _ => rfl
  | [], n + 1, m + 1, b, h => by
    have := getE_ne [] n m b (fun e => h (by rw [e]))
    simpa [getE, setE] using this
  | _ :: _, 0, 0, _, h => absurd rfl h
  | _ :: _, 0, _ + 1, _, _ => rfl
  | _ :: _, _ + 1, 0, _, _ => rfl
  | _ :: r, n + 1, m + 1, b, h => getE_ne r n m b (fun e => h (by rw [e]))
def getB (hp : Hp) (i : Nat) : Option Bl := match getE hp i with
  | some (.b x) => some x
  | _ => none
def setB (hp : Hp) (i : Nat) (b : Bl) : Hp := setE hp i (.b b)
theorem getB_iff {hp : Hp} {i : Nat} {b : Bl} : getB hp i = some b ↔ getE hp i = some (.b b) := by
  unfold getB
  split
  · rename_i x hx
    rw [hx]
    constructor
    · intro h; rw [Option.some.inj h]
    · intro h; injection h with h; injection h with h; rw [h]
  · rename_i hne
    constructor
    · intro h; cases h
    · intro h; exact absurd h (hne b)
theorem getB_self (hp : Hp) (i : Nat) (b : Bl) : getB (setB hp i b) i = some b := getB_iff.2 (getE_self _ _ _)
theorem getB_of (hp hp' : Hp) (i : Nat) (h : getE hp i = getE hp' i) : getB hp i = getB hp' i := by unfold getB; rw [h]
theorem getB_ne (hp : Hp) (i j : Nat) (b : Bl) (h : i ≠ j) : getB (setB hp i b) j = getB hp j := getB_of _ _ _ (getE_ne _ _ _ _ h)
def Dom (hp : Hp) (i : Nat) : Prop := ∃ b, getE hp i = some b
theorem dom_of {hp : Hp} {i : Nat} {b : Bl} (h : getB hp i = some b) : Dom hp i := ⟨_, getB_iff.1 h⟩
/-- Numbers that stand for something still. -/
def Live (hp : Hp) (i : Nat) : Prop := ∃ b, getE hp i = some b ∧ b ≠ .d
theorem live_of {hp : Hp} {i : Nat} {b : Bl} (h : getB hp i = some b) : Live hp i := ⟨_, getB_iff.1 h, by intro e; cases e⟩
theorem Live.dom {hp : Hp} {i : Nat} (h : Live hp i) : Dom hp i := by obtain ⟨b, h, _⟩ := h; exact ⟨b, h⟩
def Sub (hp hp' : Hp) : Prop := ∀ i, Dom hp i → Dom hp' i
theorem Sub.refl (hp : Hp) : Sub hp hp := fun _ h => h
theorem Sub.trans {a b c : Hp} (h : Sub a b) (k : Sub b c) : Sub a c := fun i hi => k i (h i hi)
theorem Sub.setE (hp : Hp) (i : Nat) (b : Ent) : Sub hp (setE hp i b) := fun j ⟨c, hc⟩ => by
  by_cases e : i = j
  · subst e; exact ⟨b, getE_self _ _ _⟩
  · exact ⟨c, by rw [getE_ne _ _ _ _ e]; exact hc⟩
theorem Sub.set (hp : Hp) (i : Nat) (b : Bl) : Sub hp (setB hp i b) := Sub.setE hp i _
theorem dom_setE {hp : Hp} {i j : Nat} {b : Ent} (h : Dom (setE hp i b) j) : j = i ∨ Dom hp j := by
  by_cases e : i = j
  · exact .inl e.symm
  · obtain ⟨c, hc⟩ := h
    rw [getE_ne _ _ _ _ e] at hc
    exact .inr ⟨c, hc⟩
theorem dom_set {hp : Hp} {i j : Nat} {b : Bl} (h : Dom (setB hp i b) j) : j = i ∨ Dom hp j := dom_setE h
theorem live_setE {hp : Hp} {i j : Nat} {b : Ent} (h : Live (setE hp i b) j) : j = i ∨ Live hp j := by
  by_cases e : i = j
  · exact .inl e.symm
  · obtain ⟨c, hc⟩ := h
    rw [getE_ne _ _ _ _ e] at hc
    exact .inr ⟨c, hc⟩
/-- A number for a new block: d, or the next free one, M by M. -/
def newId (hp : Hp) (M : Nat) : Nat → Nat → Nat
  | 0, k => k
  | n + 1, k => match getE hp k with
    | none => k
    | some _ => newId hp M n (k + M)
structure St where
  fr : List FV
  hp : Hp
abbrev pv (x : Value) : FV := .av (.one (.v x))
def act (γ : Nat → Nat × Nat) (fr : List FV) : Act := ⟨(fr.map (FV.den γ)).toArray, []⟩
def St.put (st : St) (dst : Option Tmp) (x : FV) : St := match dst with
  | some d => ⟨st.fr.set d x, st.hp⟩
  | none => st
theorem act_put (γ : Nat → Nat × Nat) (st : St) (dst : Option Tmp) (x : FV) : act γ (st.put dst x).fr = (act γ st.fr).put dst (x.den γ) := by
  cases dst with
  | none => rfl
  | some d => simp [St.put, act, Act.put, List.map_set]
theorem put_hp (st : St) (dst : Option Tmp) (x : FV) : (st.put dst x).hp = st.hp := by cases dst <;> rfl
def ev (fr : List FV) : Operand → FV
  | .tmp t => fr.getD t (pv undef)
  | .const v => pv v
  | .global g => pv (.pointer (some ⟨g, 0, none⟩))
  | .func f => pv (.func (.func f) #[] #[])
theorem ev_den (γ : Nat → Nat × Nat) (fr : List FV) (x : Operand) : (act γ fr).eval x = (ev fr x).den γ := by
  cases x with
  | tmp t =>
    simp only [act, Act.eval, ev, Array.getD_eq_getD_getElem?, List.getElem?_toArray, List.getElem?_map, List.getD_eq_getElem?_getD]
    cases fr[t]? <;> rfl
  | _ => rfl
theorem ev_sc {n : Nat → Prop} {fr : List FV} (h : ∀ x ∈ fr, x.sc n) (x : Operand) : (ev fr x).sc n := by
  cases x with
  | tmp t =>
    simp only [ev, List.getD_eq_getElem?_getD]
    cases ht : fr[t]? with
    | none => exact trivial
    | some y => exact h y (List.mem_of_getElem? ht)
  | _ => exact trivial

/-- Blocks of bs apart, what was there is as it was. -/
structure Kept (bs : List Nat) (w w' : World) : Prop where
  os : w'.os = w.os
  tape : w'.tape = w.tape
  output : w'.output = w.output
  size : w.heap.size ≤ w'.heap.size
  block : ∀ k, k < w.heap.size → k ∉ bs → w'.heap[k]? = w.heap[k]?
theorem Kept.refl (bs : List Nat) (w : World) : Kept bs w w := ⟨rfl, rfl, rfl, Nat.le_refl _, fun _ _ _ => rfl⟩
theorem Kept.below {w w' : World} (h : Kept [] w w') : Below w.heap.size w w' := ⟨h.os, h.tape, h.output, h.size, fun k hk => h.block k hk (by simp)⟩
theorem Kept.of_below {w w' : World} (bs : List Nat) (h : Below w.heap.size w w') : Kept bs w w' := ⟨h.os, h.tape, h.output, h.size, fun k hk _ => h.block k hk⟩
theorem Kept.trans {bs : List Nat} {a b c : World} (h : Kept bs a b) (k : Kept bs b c) : Kept bs a c :=
  ⟨k.os.trans h.os, k.tape.trans h.tape, k.output.trans h.output, Nat.le_trans h.size k.size, fun i hi hn => (k.block i (Nat.lt_of_lt_of_le hi h.size) hn).trans (h.block i hi hn)⟩
theorem Kept.drew {bs : List Nat} {a b : World} (h : Kept bs a b) : Kept bs a b.drew := ⟨h.os, h.tape, h.output, h.size, h.block⟩
theorem Kept.alloc {bs : List Nat} {a b : World} (h : Kept bs a b) (o : Obj) : Kept bs a (b.alloc o) :=
  ⟨h.os, h.tape, h.output, by simp; have := h.size; omega, fun k hk hn => (Below.heap_alloc b o k (Nat.lt_of_lt_of_le hk h.size)).trans (h.block k hk hn)⟩
theorem Kept.setRow {bs : List Nat} {a b : World} (h : Kept bs a b) (g : Nat) (cs : Array Value) (hg : a.heap.size ≤ g ∨ g ∈ bs) : Kept bs a (b.setRow g cs) :=
  ⟨h.os, h.tape, h.output, by rw [setRow_size]; exact h.size, fun k hk hn => by
    rw [setRow_other]
    · exact h.block k hk hn
    · rintro rfl
      rcases hg with hg | hg
      · omega
      · exact hn hg⟩

/-- The world w bears the state: the call's blocks lie where γ says and hold what the state says. -/
structure Loc (γ : Nat → Nat × Nat) (st : St) (w0 : World) (bs : List Nat) (w : World) : Prop where
  kept : Kept bs w0 w
  blk : ∀ i b, getB st.hp i = some b → w.heap[(γ i).1]? = some (.cells (b.cs.map (C.den γ)).toArray b.ty (0, 0))
  own : ∀ i, Dom st.hp i → w0.heap.size ≤ (γ i).1 ∨ (γ i).1 ∈ bs
  inj : ∀ i j, Live st.hp i → Live st.hp j → (γ i).1 = (γ j).1 → i = j
  scf : ∀ x ∈ st.fr, x.sc (Dom st.hp)
  sch : ∀ i b, getB st.hp i = some b → ∀ c ∈ b.cs, c.sc (Dom st.hp)
  row : ∀ i cs ty sz, getE st.hp i = some (.r cs ty sz) → 0 < sz ∧ (∃ k, w.ownsRow 0 ty sz (.slice (some ⟨(γ i).1, 0, none⟩) k (γ i).2) k (cs.map (C.den γ)))
  scr : ∀ i cs ty sz, getE st.hp i = some (.r cs ty sz) → ∀ c ∈ cs, C.sc (Dom st.hp) c
section
variable {γ : Nat → Nat × Nat} {st : St} {w0 w : World} {bs : List Nat}
theorem mem_set {α : Type} {l : List α} {d : Nat} {x y : α} (h : y ∈ l.set d x) : y ∈ l ∨ y = x := by
  rcases List.mem_or_eq_of_mem_set h with h | h
  · exact .inl h
  · exact .inr h
theorem Loc.put (h : Loc γ st w0 bs w) (dst : Option Tmp) {x : FV} (hx : x.sc (Dom st.hp)) : Loc γ (st.put dst x) w0 bs w := by
  cases dst with
  | none => exact h
  | some d =>
    refine ⟨h.kept, h.blk, h.own, h.inj, fun y hy => ?_, h.sch, h.row, h.scr⟩
    rcases mem_set hy with hy | rfl
    · exact h.scf y hy
    · exact hx
theorem Loc.drew (h : Loc γ st w0 bs w) : Loc γ st w0 bs w.drew := ⟨h.kept.drew, h.blk, h.own, h.inj, h.scf, h.sch, h.row, h.scr⟩
theorem row_heap {e : TypeId} {sz k : Nat} {v : Value} {xs : List Value} {g : Nat} (h : w.ownsRow 0 e sz v k xs) (hg : v.ownBlock = some g) : ∃ cap cur, v = .slice (some ⟨g, 0, none⟩) k cap ∧ w.heap[g]? = some (.cells cur e (0, 0)) ∧ k ≤ cap ∧ cap ≤ maxLen ∧ cur.size = cap * sz ∧ cur.toList.take (k * sz) = xs := by
  rcases h.2 with ⟨rfl, _⟩ | ⟨g', cap, cur, rfl, _, h1, h2, h3, h4, h5⟩
  · simp [Value.ownBlock] at hg
  · simp [Value.ownBlock] at hg
    subst hg
    exact ⟨cap, cur, rfl, h1, h2, h3, h4, h5⟩
theorem row_kept {e : TypeId} {sz k : Nat} {v : Value} {xs : List Value} {g : Nat} {w' : World} (h : w.ownsRow 0 e sz v k xs) (hg : v.ownBlock = some g) (hw : w'.heap[g]? = w.heap[g]?) : w'.ownsRow 0 e sz v k xs := by
  obtain ⟨cap, cur, rfl, h1, h2, h3, h4, h5⟩ := row_heap h hg
  exact ⟨h.1, .inr ⟨g, cap, cur, rfl, Nat.zero_le _, hw.trans h1, h2, h3, h4, h5⟩⟩
theorem Loc.lt (h : Loc γ st w0 bs w) {i : Nat} (hi : Live st.hp i) : (γ i).1 < w.heap.size := by
  obtain ⟨b, hb, hne⟩ := hi
  cases b with
  | b x => exact (Array.getElem?_eq_some_iff.1 (h.blk i x (getB_iff.2 hb))).1
  | r cs ty sz =>
    obtain ⟨_, ⟨k, h1⟩⟩ := h.row i cs ty sz hb
    obtain ⟨_, cur, _, h3, _⟩ := row_heap h1 rfl
    exact (Array.getElem?_eq_some_iff.1 h3).1
  | d => exact absurd rfl hne
/-- The rows, where their blocks are as they were. -/
theorem Loc.rows (h : Loc γ st w0 bs w) {w' : World} (hw : ∀ i cs ty sz, getE st.hp i = some (.r cs ty sz) → w'.heap[(γ i).1]? = w.heap[(γ i).1]?) :
    ∀ i cs ty sz, getE st.hp i = some (.r cs ty sz) → 0 < sz ∧ (∃ k, w'.ownsRow 0 ty sz (.slice (some ⟨(γ i).1, 0, none⟩) k (γ i).2) k (cs.map (C.den γ))) := fun i cs ty sz hi => by
  obtain ⟨h0, ⟨k, h1⟩⟩ := h.row i cs ty sz hi
  exact ⟨h0, ⟨k, row_kept h1 rfl (hw i cs ty sz hi)⟩⟩
theorem live_r {hp : Hp} {i : Nat} {cs : List C} {ty : TypeId} {sz : Nat} (h : getE hp i = some (.r cs ty sz)) : Live hp i := ⟨_, h, by intro e; cases e⟩
/-- Behind a call that turns nothing that was there. -/
theorem Loc.call (h : Loc γ st w0 bs w) {w' : World} (hb : Below w.heap.size w w') : Loc γ st w0 bs w' :=
  ⟨h.kept.trans (Kept.of_below bs hb), fun i b hi => (hb.block _ (h.lt (live_of hi))).trans (h.blk i b hi), h.own, h.inj, h.scf, h.sch, h.rows fun i cs ty sz hi => hb.block _ (h.lt (live_r hi)), h.scr⟩
theorem Loc.cell (h : Loc γ st w0 bs w) {i off : Nat} {b : Bl} {c : C} (hi : getB st.hp i = some b) (hc : b.cs[off]? = some c) : w.cell? ⟨(γ i).1, off, none⟩ = some (c.den γ) := by
  simp [World.cell?, h.blk i b hi, hc]
def upd (γ : Nat → Nat × Nat) (n : Nat) (g : Nat × Nat) : Nat → Nat × Nat := fun i => if i = n then g else γ i
theorem upd_ne {n i : Nat} {g : Nat × Nat} (h : i ≠ n) : upd γ n g i = γ i := by unfold upd; rw [if_neg h]
theorem upd_at {n : Nat} {g : Nat × Nat} : upd γ n g n = g := by unfold upd; rw [if_pos rfl]
/-- A new block of the call's own. -/
theorem Loc.alloc (h : Loc γ st w0 bs w) {k : Nat} (hk : getE st.hp k = none) (cs : List C) (ty : TypeId) (hc : ∀ c ∈ cs, c.sc (Dom st.hp)) :
    Loc (upd γ k (w.heap.size, 0)) ⟨st.fr, setB st.hp k ⟨cs, ty⟩⟩ w0 bs (w.alloc (.cells (cs.map (C.den γ)).toArray ty)) := by
  have hne : ∀ i, Dom st.hp i → i ≠ k := by
    rintro i ⟨b, hb⟩ rfl
    rw [hk] at hb
    cases hb
  have hag : ∀ i, Dom st.hp i → γ i = upd γ k (w.heap.size, 0) i := fun i hi => (upd_ne (hne i hi)).symm
  have hsub := Sub.set st.hp k ⟨cs, ty⟩
  have hback : ∀ i cs' ty' sz, getE (setB st.hp k ⟨cs, ty⟩) i = some (.r cs' ty' sz) → getE st.hp i = some (.r cs' ty' sz) := fun i cs' ty' sz hi => by
    by_cases e : k = i
    · subst e
      unfold setB at hi
      rw [getE_self] at hi
      cases hi
    · unfold setB at hi
      rwa [getE_ne _ _ _ _ e] at hi
  refine ⟨h.kept.alloc _, fun i b hi => ?_, fun i hi => ?_, fun i j hi hj e => ?_, fun x hx => FV.sc_mono hsub (h.scf x hx), fun i b hb c hm => ?_, fun i cs' ty' sz hi => ?_, fun i cs' ty' sz hi c hm => C.sc_mono hsub (h.scr i cs' ty' sz (hback i cs' ty' sz hi) c hm)⟩
  · by_cases e : k = i
    · subst e
      rw [getB_self] at hi
      obtain rfl := Option.some.inj hi
      rw [upd_at, ← List.map_congr_left (fun c hm => C.agree hag (hc c hm))]
      show (w.heap.push _)[w.heap.size]? = _
      simp
    · rw [getB_ne _ _ _ _ e] at hi
      rw [upd_ne (Ne.symm e), ← List.map_congr_left (fun c hm => C.agree hag (h.sch i b hi c hm))]
      exact (Below.heap_alloc w _ _ (h.lt (live_of hi))).trans (h.blk i b hi)
  · rcases dom_set hi with rfl | hi
    · rw [upd_at]; exact .inl h.kept.size
    · rw [upd_ne (hne i hi)]; exact h.own i hi
  · rcases live_setE hi with ei | hi' <;> rcases live_setE hj with ej | hj'
    · rw [ei, ej]
    · rw [ei, upd_at, upd_ne (hne j hj'.dom)] at e
      have := h.lt hj'
      simp only at e
      omega
    · rw [ej, upd_at, upd_ne (hne i hi'.dom)] at e
      have := h.lt hi'
      simp only at e
      omega
    · rw [upd_ne (hne i hi'.dom), upd_ne (hne j hj'.dom)] at e
      exact h.inj i j hi' hj' e
  · by_cases e : k = i
    · subst e
      rw [getB_self] at hb
      obtain rfl := Option.some.inj hb
      exact C.sc_mono hsub (hc c hm)
    · rw [getB_ne _ _ _ _ e] at hb
      exact C.sc_mono hsub (h.sch i b hb c hm)
  · have hi' := hback i cs' ty' sz hi
    rw [← hag i (live_r hi').dom, ← List.map_congr_left (fun c hm => C.agree hag (h.scr i cs' ty' sz hi' c hm))]
    obtain ⟨h0, ⟨n, h1⟩⟩ := h.row i cs' ty' sz hi'
    exact ⟨h0, ⟨n, row_kept h1 rfl (Below.heap_alloc w _ _ (h.lt (live_r hi')))⟩⟩
/-- A block of the call's own is written anew. -/
theorem Loc.setRow (h : Loc γ st w0 bs w) {i : Nat} {b : Bl} (hi : getB st.hp i = some b) (cs : List C) (hc : ∀ c ∈ cs, c.sc (Dom st.hp)) :
    Loc γ ⟨st.fr, setB st.hp i ⟨cs, b.ty⟩⟩ w0 bs (w.setRow (γ i).1 (cs.map (C.den γ)).toArray) := by
  have hsub := Sub.set st.hp i ⟨cs, b.ty⟩
  have hback : ∀ j, Dom (setB st.hp i ⟨cs, b.ty⟩) j → Dom st.hp j := fun j hj => by
    rcases dom_set hj with rfl | hj
    · exact dom_of hi
    · exact hj
  have hbackL : ∀ j, Live (setB st.hp i ⟨cs, b.ty⟩) j → Live st.hp j := fun j hj => by
    rcases live_setE hj with rfl | hj
    · exact live_of hi
    · exact hj
  have hne : ∀ j cs' ty' sz, getE (setB st.hp i ⟨cs, b.ty⟩) j = some (.r cs' ty' sz) → i ≠ j ∧ getE st.hp j = some (.r cs' ty' sz) := fun j cs' ty' sz hj => by
    by_cases e : i = j
    · subst e
      unfold setB at hj
      rw [getE_self] at hj
      cases hj
    · unfold setB at hj
      rw [getE_ne _ _ _ _ e] at hj
      exact ⟨e, hj⟩
  refine ⟨h.kept.setRow _ _ (h.own i (dom_of hi)), fun j b' hj => ?_, fun j hj => h.own j (hback j hj), fun j k hj hk e => h.inj j k (hbackL j hj) (hbackL k hk) e, fun x hx => FV.sc_mono hsub (h.scf x hx), fun j b' hb c hm => ?_, fun j cs' ty' sz hj => ?_, fun j cs' ty' sz hj c hm => C.sc_mono hsub (h.scr j cs' ty' sz (hne j cs' ty' sz hj).2 c hm)⟩
  · by_cases e : i = j
    · subst e
      rw [getB_self] at hj
      obtain rfl := Option.some.inj hj
      exact setRow_heap w _ _ _ _ _ (h.blk i b hi)
    · rw [getB_ne _ _ _ _ e] at hj
      rw [setRow_other]
      · exact h.blk j b' hj
      · exact fun e2 => e (h.inj i j (live_of hi) (live_of hj) e2.symm)
  · by_cases e : i = j
    · subst e
      rw [getB_self] at hb
      obtain rfl := Option.some.inj hb
      exact C.sc_mono hsub (hc c hm)
    · rw [getB_ne _ _ _ _ e] at hb
      exact C.sc_mono hsub (h.sch j b' hb c hm)
  · obtain ⟨e, hj'⟩ := hne j cs' ty' sz hj
    obtain ⟨h0, ⟨n, h1⟩⟩ := h.row j cs' ty' sz hj'
    exact ⟨h0, ⟨n, row_kept h1 rfl (setRow_other _ _ _ _ fun e2 => e (h.inj i j (live_of hi) (live_r hj') e2.symm))⟩⟩
end

/-! ### operations that look at no memory -/
def pureRun (P : Program) {α : Type} : Sem α → Option α
  | .pure a => some a
  | .program k => pureRun P (k P)
  | .mark _ k => pureRun P k
  | _ => none
theorem pureRun_run {P : Program} {α : Type} : ∀ (s : Sem α) {a : α}, pureRun P s = some a → ∀ w, s.run P w = .ok a w
  | .pure a, _, h, w => by obtain rfl := Option.some.inj h; rfl
  | .program k, _, h, w => pureRun_run (k P) h w
  | .mark _ k, _, h, w => pureRun_run k h w
  | .load .., _, h, _ => by simp [pureRun] at h
  | .store .., _, h, _ => by simp [pureRun] at h
  | .new .., _, h, _ => by simp [pureRun] at h
  | .shape .., _, h, _ => by simp [pureRun] at h
  | .freeze .., _, h, _ => by simp [pureRun] at h
  | .frozen .., _, h, _ => by simp [pureRun] at h
  | .getObj .., _, h, _ => by simp [pureRun] at h
  | .setObj .., _, h, _ => by simp [pureRun] at h
  | .choose .., _, h, _ => by simp [pureRun] at h
  | .sys .., _, h, _ => by simp [pureRun] at h
  | .halt .., _, h, _ => by simp [pureRun] at h
def pval : FV → Option Value
  | .av (.one (.v x)) => some x
  | _ => none
theorem pval_den {x : FV} {v : Value} (h : pval x = some v) (γ : Nat → Nat × Nat) : x.den γ = v := by
  unfold pval at h
  split at h
  · exact Option.some.inj h
  · cases h
def notSel : Op → Bool
  | .select .. => false
  | _ => true
def stepPure (P : Program) (fr : List FV) (o : Oper) : Option Value :=
  if notSel o.op && o.op.operands.all (fun x => (pval (ev fr x)).isSome) then
    match pureRun P (execOp (fun x => (pval (ev fr x)).getD undef) o) with
    | some (.value v) => some v
    | _ => none
  else none
theorem stepPure_run {P : Program} {fr : List FV} {o : Oper} {v : Value} (h : stepPure P fr o = some v) (γ : Nat → Nat × Nat) (w : World) : (execOp (act γ fr).eval o).run P w = .ok (.value v) w := by
  unfold stepPure at h
  split at h
  · rename_i hc
    rw [Bool.and_eq_true] at hc
    have he : execOp (act γ fr).eval o = execOp (fun x => (pval (ev fr x)).getD undef) o := by
      refine execOp_congr o (fun cs b e => ?_) (fun x hx => ?_)
      · rw [e] at hc; exact absurd hc.1 (by simp [notSel])
      · have h1 := Array.all_eq_true_iff_forall_mem.1 hc.2 x hx
        obtain ⟨y, hy⟩ := Option.isSome_iff_exists.1 h1
        rw [ev_den, hy, pval_den hy]
        rfl
    rw [he]
    split at h
    · rename_i z hz
      obtain rfl := Option.some.inj h
      exact pureRun_run _ hz w
    · cases h
  · cases h

/-! ### operations on addresses of the call's own blocks -/
def fieldOff (P : Program) (s : TypeId) (f : Nat) : Option Nat :=
  match P.underlying s with
  | some (.struct fs) => match fs[f]? with
    | some fd => match P.info? fd.type with
      | some i => if i.size = 0 then none else some fd.offset
      | none => none
    | none => none
  | _ => none
theorem add_lit (g o n : Nat) : (⟨g, o, none⟩ : Addr).add n = ⟨g, o + n, none⟩ := by unfold Addr.add; split <;> simp_all
theorem run_fieldAt {P : Program} {s : TypeId} {f k : Nat} (h : fieldOff P s f = some k) (g o : Nat) (w : World) :
    (Instr.fieldAt s (.pointer (some ⟨g, o, none⟩)) f).run P w = .ok (.pointer (some ⟨g, o + k, none⟩)) w := by
  unfold fieldOff at h
  split at h
  · rename_i fs hs
    split at h
    · rename_i fd hf
      split at h
      · rename_i i hi
        split at h
        · cases h
        · rename_i hz
          obtain rfl := Option.some.inj h
          have hc : P.cellsOf fd.type ≠ 0 := by simp [Program.cellsOf, hi]; exact hz
          simp [Instr.fieldAt, run_underlying hs, hf, Instr.sureAddr, fieldPlace, run_sizeOf w hi, hc, add_lit]
      · cases h
    · cases h
  · cases h
def toPV : FV → Option PV
  | .av (.one (.v x)) => some (.v x)
  | .av (.one (.p i off)) => some (.p i off)
  | _ => none
def toPVs : List FV → Option (List PV)
  | [] => some []
  | x :: r => match toPV x, toPVs r with
    | some y, some l => some (y :: l)
    | _, _ => none
theorem toPV_den {x : FV} {y : PV} (h : toPV x = some y) (γ : Nat → Nat × Nat) : x.den γ = y.den γ := by
  unfold toPV at h
  split at h <;> first | (obtain rfl := Option.some.inj h; rfl) | cases h
theorem toPV_sc {n : Nat → Prop} {x : FV} {y : PV} (h : toPV x = some y) (hx : x.sc n) : y.sc n := by
  unfold toPV at h
  split at h <;> first | (obtain rfl := Option.some.inj h; exact hx) | cases h
theorem toPVs_den (γ : Nat → Nat × Nat) : ∀ {l : List FV} {l' : List PV}, toPVs l = some l' → l.map (FV.den γ) = l'.map (PV.den γ)
  | [], _, h => by obtain rfl := Option.some.inj h; rfl
  | x :: r, l', h => by
    unfold toPVs at h
    split at h
    · rename_i y l h1 h2
      obtain rfl := Option.some.inj h
      rw [List.map_cons, List.map_cons, toPV_den h1, toPVs_den γ h2]
    · cases h
theorem toPVs_sc {n : Nat → Prop} : ∀ {l : List FV} {l' : List PV}, toPVs l = some l' → (∀ x ∈ l, x.sc n) → ∀ y ∈ l', y.sc n
  | [], _, h, _ => by obtain rfl := Option.some.inj h; simp
  | x :: r, l', h, hs => by
    unfold toPVs at h
    split at h
    · rename_i y l h1 h2
      obtain rfl := Option.some.inj h
      intro z hz
      rcases List.mem_cons.1 hz with rfl | hz
      · exact toPV_sc h1 (hs _ List.mem_cons_self)
      · exact toPVs_sc h2 (fun x hx => hs x (List.mem_cons_of_mem _ hx)) z hz
    · cases h
/-- The place of an element, in cells behind the row's begin. -/
def elemOff (P : Program) (e : TypeId) (n : Int) (len : Nat) : Option Nat :=
  if 0 ≤ n ∧ n < len then match P.info? e with
    | some inf => some (n.toNat * inf.size)
    | none => none
  else none
/-- 'len' of a row in a block of the call's own. -/
def lenLoc (P : Program) (fr : List FV) (c : Call) : Option FV := match c.callee with
  | .builtin .len => match c.args[0]? with
    | some x => match ev fr x with
      | .av (.one (.sl _ _ len _)) => match c.argTypes[0]? with
        | some t => match P.underlying t with
          | some (.slice _) => some (pv (.int .i64 len))
          | _ => none
        | none => none
      | .av (.one (.u _ len)) => match c.argTypes[0]? with
        | some t => match P.underlying t with
          | some (.slice _) => some (pv (.int .i64 len))
          | _ => none
        | none => none
      | _ => none
    | none => none
  | _ => none
theorem lenLoc_run {P : Program} {fr : List FV} {c : Call} {x : FV} (h : lenLoc P fr c = some x) (γ : Nat → Nat × Nat) (ty : TypeId) (w : World) : (do let d ← resolve (act γ fr).eval c ty; invoke d.target d.args : Sem Next).run P w = .ok (.value (x.den γ)) w := by
  unfold lenLoc at h
  split at h
  · rename_i hb
    split at h
    · rename_i y hy
      split at h
      · rename_i i off len cap hv
        split at h
        · rename_i t ht
          split at h
          · rename_i e hu
            obtain rfl := Option.some.inj h
            have e1 : (act γ fr).eval y = .slice (some ⟨(γ i).1, off, none⟩) len cap := by rw [ev_den, hv]; rfl
            have e2 : (c.args.map (act γ fr).eval)[0]? = some (.slice (some ⟨(γ i).1, off, none⟩) len cap) := by rw [Array.getElem?_map, hy, ← e1]; rfl
            simp [resolve, hb, invoke, builtin, Builtin.len_, ht, hy, e1, run_underlying hu, goInt, FV.den, AV.den, C.den]
          · cases h
        · cases h
      · rename_i i len hv
        split at h
        · rename_i t ht
          split at h
          · rename_i e hu
            obtain rfl := Option.some.inj h
            have e1 : (act γ fr).eval y = .slice (some ⟨(γ i).1, 0, none⟩) len (γ i).2 := by rw [ev_den, hv]; rfl
            have e2 : (c.args.map (act γ fr).eval)[0]? = some (.slice (some ⟨(γ i).1, 0, none⟩) len (γ i).2) := by rw [Array.getElem?_map, hy, ← e1]; rfl
            simp [resolve, hb, invoke, builtin, Builtin.len_, ht, hy, e1, run_underlying hu, goInt, FV.den, AV.den, C.den]
          · cases h
        · cases h
      · cases h
    · cases h
  · cases h
theorem lenLoc_sc {P : Program} {fr : List FV} {c : Call} {x : FV} {n : Nat → Prop} (h : lenLoc P fr c = some x) : x.sc n := by
  unfold lenLoc at h
  split at h
  · split at h
    · split at h
      · split at h
        · split at h
          · obtain rfl := Option.some.inj h; trivial
          · cases h
        · cases h
      · split at h
        · split at h
          · obtain rfl := Option.some.inj h; trivial
          · cases h
        · cases h
      · cases h
    · cases h
  · cases h
def stepLoc (P : Program) (fr : List FV) (o : Oper) : Option FV :=
  match o.op with
  | .move x => some (ev fr x)
  | .assign x => some (ev fr x)
  | .pick c a b => match ev fr c with
    | .av (.one (.v (.bool t))) => some (if t then ev fr a else ev fr b)
    | _ => none
  | .extract x ix => match ev fr x with
    | .tu l => (l[ix]?).map FV.av
    | _ => none
  | .fieldAddr s x f => match ev fr x with
    | .av (.one (.p i off)) => (fieldOff P s f).map fun k => .av (.one (.p i (off + k)))
    | _ => none
  | .indexAddr t x ix => match ev fr ix with
    | .av (.one (.v (.int _ n))) => match ev fr x with
      | .av (.one (.p i off)) => match P.underlying t with
        | some (.array len e) => (elemOff P e n len).map fun k => .av (.one (.p i (off + k)))
        | _ => none
      | .av (.one (.sl i off len _)) => match P.underlying t with
        | some (.slice e) => (elemOff P e n len).map fun k => .av (.one (.p i (off + k)))
        | _ => none
      | .av (.one (.u i len)) => match P.underlying t with
        | some (.slice e) => (elemOff P e n len).map fun k => .av (.one (.p i (0 + k)))
        | _ => none
      | _ => none
    | _ => none
  | .nilCheck x => match ev fr x with
    | .av (.one (.p i off)) => some (.av (.one (.p i off)))
    | _ => none
  | .makeFunc f a b => match toPVs (a.toList.map (ev fr)), toPVs (b.toList.map (ev fr)) with
    | some l, some l' => some (.av (.one (.fn f l l')))
    | _, _ => none
  | .call c => lenLoc P fr c
  | _ => none
theorem run_indexAt_array {P : Program} {t e : TypeId} {k : IntKind} {n : Int} {len m : Nat} (ht : P.underlying t = some (.array len e)) (h : elemOff P e n len = some m) (g o : Nat) (w : World) :
    (Instr.indexAt t (.pointer (some ⟨g, o, none⟩)) (.int k n)).run P w = .ok (.pointer (some ⟨g, o + m, none⟩)) w := by
  unfold elemOff at h
  split at h
  · rename_i hb
    split at h
    · rename_i inf hi
      obtain rfl := Option.some.inj h
      have hc : P.cellsOf e = inf.size := by simp [Program.cellsOf, hi]
      simp [Instr.indexAt, asIntOf, run_underlying ht, Instr.sureAddr, hb.1, hb.2, run_sizeOf w hi, add_lit, hc]
    · cases h
  · cases h
theorem run_indexAt_slice {P : Program} {t e : TypeId} {k : IntKind} {n : Int} {len m c : Nat} (ht : P.underlying t = some (.slice e)) (h : elemOff P e n len = some m) (g o : Nat) (w : World) :
    (Instr.indexAt t (.slice (some ⟨g, o, none⟩) len c) (.int k n)).run P w = .ok (.pointer (some ⟨g, o + m, none⟩)) w := by
  unfold elemOff at h
  split at h
  · rename_i hb
    split at h
    · rename_i inf hi
      obtain rfl := Option.some.inj h
      have hc : P.cellsOf e = inf.size := by simp [Program.cellsOf, hi]
      simp [Instr.indexAt, asIntOf, run_underlying ht, hb.1, hb.2, run_sizeOf w hi, add_lit, hc]
    · cases h
  · cases h
theorem stepLoc_run {P : Program} {fr : List FV} {o : Oper} {x : FV} (h : stepLoc P fr o = some x) (γ : Nat → Nat × Nat) (w : World) : (execOp (act γ fr).eval o).run P w = .ok (.value (x.den γ)) w := by
  unfold stepLoc at h
  unfold execOp
  split at h
  · rename_i y hop
    obtain rfl := Option.some.inj h
    simp [hop, ev_den]
  · rename_i y hop
    obtain rfl := Option.some.inj h
    simp [hop, ev_den]
  · rename_i c a b hop
    split at h
    · rename_i t hc
      obtain rfl := Option.some.inj h
      have e1 : (act γ fr).eval c = .bool t := by rw [ev_den, hc]; rfl
      simp only [hop, e1, asBool, Sem.run_bind, Sem.run_pure, Result.andThen_ok, ev_den]
      cases t <;> rfl
    · cases h
  · rename_i y ix hop
    split at h
    · rename_i l hl
      obtain ⟨a, ha, rfl⟩ := Option.map_eq_some_iff.1 h
      have e1 : (act γ fr).eval y = .tuple (l.map (AV.den γ)).toArray := by rw [ev_den, hl]; rfl
      simp [hop, e1, Instr.extract, ha, FV.den]
    · cases h
  · rename_i s y f hop
    split at h
    · rename_i i off hy
      obtain ⟨k, hk, rfl⟩ := Option.map_eq_some_iff.1 h
      have e1 : (act γ fr).eval y = .pointer (some ⟨(γ i).1, off, none⟩) := by rw [ev_den, hy]; rfl
      simp [hop, e1, run_fieldAt hk, FV.den, AV.den, C.den]
    · cases h
  · rename_i t y ix hop
    split at h
    · rename_i kk n hn
      have e0 : (act γ fr).eval ix = .int kk n := by rw [ev_den, hn]; rfl
      split at h
      · rename_i i off hy
        have e1 : (act γ fr).eval y = .pointer (some ⟨(γ i).1, off, none⟩) := by rw [ev_den, hy]; rfl
        split at h
        · rename_i len e ht
          obtain ⟨k, hk, rfl⟩ := Option.map_eq_some_iff.1 h
          simp [hop, e0, e1, run_indexAt_array ht hk, FV.den, AV.den, C.den]
        · cases h
      · rename_i i off len cap hy
        have e1 : (act γ fr).eval y = .slice (some ⟨(γ i).1, off, none⟩) len cap := by rw [ev_den, hy]; rfl
        split at h
        · rename_i e ht
          obtain ⟨k, hk, rfl⟩ := Option.map_eq_some_iff.1 h
          simp [hop, e0, e1, run_indexAt_slice ht hk, FV.den, AV.den, C.den]
        · cases h
      · rename_i i len hy
        have e1 : (act γ fr).eval y = .slice (some ⟨(γ i).1, 0, none⟩) len (γ i).2 := by rw [ev_den, hy]; rfl
        split at h
        · rename_i e ht
          obtain ⟨k, hk, rfl⟩ := Option.map_eq_some_iff.1 h
          simp [hop, e0, e1, run_indexAt_slice ht hk, FV.den, AV.den, C.den]
        · cases h
      · cases h
    · cases h
  · rename_i y hop
    split at h
    · rename_i i off hy
      obtain rfl := Option.some.inj h
      have e1 : (act γ fr).eval y = .pointer (some ⟨(γ i).1, off, none⟩) := by rw [ev_den, hy]; rfl
      simp [hop, e1, FV.den, AV.den, C.den]
    · cases h
  · rename_i f a b hop
    split at h
    · rename_i l l' h1 h2
      obtain rfl := Option.some.inj h
      have e1 : a.map (act γ fr).eval = (l.map (PV.den γ)).toArray := by
        apply Array.ext'
        rw [Array.toList_map, ← toPVs_den γ h1, List.map_map]
        exact List.map_congr_left fun z _ => ev_den γ fr z
      have e2 : b.map (act γ fr).eval = (l'.map (PV.den γ)).toArray := by
        apply Array.ext'
        rw [Array.toList_map, ← toPVs_den γ h2, List.map_map]
        exact List.map_congr_left fun z _ => ev_den γ fr z
      simp [hop, e1, e2, Instr.makeFunc, FV.den, AV.den, C.den]
    · cases h
  · rename_i c hop
    rw [hop]
    exact lenLoc_run h γ o.type w
  · cases h
theorem stepLoc_sc {P : Program} {fr : List FV} {o : Oper} {x : FV} {n : Nat → Prop} (hs : ∀ y ∈ fr, FV.sc n y) (h : stepLoc P fr o = some x) : x.sc n := by
  have hE : ∀ z, FV.sc n (ev fr z) := fun z => ev_sc hs z
  unfold stepLoc at h
  split at h
  · obtain rfl := Option.some.inj h; exact hE _
  · obtain rfl := Option.some.inj h; exact hE _
  · split at h
    · obtain rfl := Option.some.inj h; split <;> exact hE _
    · cases h
  · rename_i y ix hop
    split at h
    · rename_i l hl
      obtain ⟨a, ha, rfl⟩ := Option.map_eq_some_iff.1 h
      have := hE y
      rw [hl] at this
      exact this a (List.mem_of_getElem? ha)
    · cases h
  · rename_i s y f hop
    split at h
    · rename_i i off hy
      obtain ⟨k, hk, rfl⟩ := Option.map_eq_some_iff.1 h
      have := hE y
      rw [hy] at this
      exact this
    · cases h
  · rename_i t y ix hop
    split at h
    · split at h
      · rename_i i off hy
        have := hE y
        rw [hy] at this
        split at h
        · obtain ⟨k, hk, rfl⟩ := Option.map_eq_some_iff.1 h
          exact this
        · cases h
      · rename_i i off len cap hy
        have := hE y
        rw [hy] at this
        split at h
        · obtain ⟨k, hk, rfl⟩ := Option.map_eq_some_iff.1 h
          exact this
        · cases h
      · rename_i i len hy
        have := hE y
        rw [hy] at this
        split at h
        · obtain ⟨k, hk, rfl⟩ := Option.map_eq_some_iff.1 h
          exact this
        · cases h
      · cases h
    · cases h
  · rename_i y hop
    split at h
    · rename_i i off hy
      obtain rfl := Option.some.inj h
      have := hE y
      rw [hy] at this
      exact this
    · cases h
  · rename_i f a b hop
    split at h
    · rename_i l l' h1 h2
      obtain rfl := Option.some.inj h
      exact ⟨toPVs_sc h1 (fun z hz => by obtain ⟨q, _, rfl⟩ := List.mem_map.1 hz; exact hE q), toPVs_sc h2 (fun z hz => by obtain ⟨q, _, rfl⟩ := List.mem_map.1 hz; exact hE q)⟩
    · cases h
  · exact lenLoc_sc h
  · cases h
/-- An operation that yields its value in whatever world. -/
def stepY (P : Program) (fr : List FV) (o : Oper) : Option FV := match stepPure P fr o with
  | some v => some (pv v)
  | none => stepLoc P fr o
theorem stepY_run {P : Program} {fr : List FV} {o : Oper} {x : FV} (h : stepY P fr o = some x) (γ : Nat → Nat × Nat) (w : World) : (execOp (act γ fr).eval o).run P w = .ok (.value (x.den γ)) w := by
  unfold stepY at h
  split at h
  · rename_i v hv
    obtain rfl := Option.some.inj h
    exact stepPure_run hv γ w
  · exact stepLoc_run h γ w
theorem stepY_sc {P : Program} {fr : List FV} {o : Oper} {x : FV} {n : Nat → Prop} (hs : ∀ y ∈ fr, FV.sc n y) (h : stepY P fr o = some x) : x.sc n := by
  unfold stepY at h
  split at h
  · obtain rfl := Option.some.inj h; trivial
  · exact stepLoc_sc hs h

/-! ### loads -/
def isAggD : TypeDesc → Bool
  | .struct _ => true
  | .array _ _ => true
  | _ => false
theorem run_isAgg {P : Program} {t : TypeId} {d : TypeDesc} (h : P.underlying t = some d) (w : World) : (isAgg t).run P w = .ok (isAggD d) w := by
  simp only [isAgg, Sem.run_bind, run_underlying h, Result.andThen_ok]
  cases d <;> rfl
def vals : List C → Option (List Value)
  | [] => some []
  | .v x :: r => match vals r with
    | some l => some (x :: l)
    | none => none
  | _ :: _ => none
theorem vals_den (γ : Nat → Nat × Nat) : ∀ {l : List C} {l' : List Value}, vals l = some l' → l.map (C.den γ) = l'
  | [], _, h => by obtain rfl := Option.some.inj h; rfl
  | .v x :: r, l', h => by
    unfold vals at h
    split at h
    · rename_i l hl
      obtain rfl := Option.some.inj h
      rw [List.map_cons, vals_den γ hl]
      rfl
    · cases h
  | .p _ _ :: _, _, h => by simp [vals] at h
  | .sl _ _ _ _ :: _, _, h => by simp [vals] at h
  | .fn _ _ _ :: _, _, h => by simp [vals] at h
def mkAg (l : List C) : AV := match vals l with
  | some xs => .one (.v (.agg xs.toArray))
  | none => .ag l
theorem mkAg_den (γ : Nat → Nat × Nat) (l : List C) : (mkAg l).den γ = .agg (l.map (C.den γ)).toArray := by
  unfold mkAg
  split
  · rename_i xs h
    rw [vals_den γ h]
    rfl
  · rfl
theorem mkAg_sc {n : Nat → Prop} {l : List C} (h : ∀ c ∈ l, C.sc n c) : (mkAg l).sc n := by
  unfold mkAg
  split
  · trivial
  · exact h
/-- How many cells a variable of the type takes, as a load reads them. -/
def loadSpan (P : Program) (t : TypeId) : Nat := match P.underlying t with
  | some d => if isAggD d then P.cellsOf t else 1
  | none => 0
def loadC (P : Program) (t : TypeId) (cs : List C) (off : Nat) : Option AV := match P.underlying t with
  | some d => if isAggD d then match P.info? t with
      | some inf => if ((cs.drop off).take inf.size).length = inf.size then some (mkAg ((cs.drop off).take inf.size)) else none
      | none => none
    else match cs[off]? with
      | some c => some (.one c)
      | none => none
  | none => none
theorem loadC_run {P : Program} {t : TypeId} {cs : List C} {off g : Nat} {a : AV} {γ : Nat → Nat × Nat} {w : World} (h : loadC P t cs off = some a)
    (hc : ∀ j c, cs[j]? = some c → off ≤ j → j < off + loadSpan P t → w.cell? ⟨g, j, none⟩ = some (c.den γ)) :
    (Instr.loadAt t (.pointer (some ⟨g, off, none⟩))).run P w = .ok (a.den γ) w := by
  unfold loadC at h
  unfold loadSpan at hc
  split at h
  · rename_i d hd
    rw [hd] at hc
    simp only [Instr.loadAt, Instr.sureAddr, Sem.run_bind, Sem.run_pure, Result.andThen_ok, loadVar, run_isAgg hd]
    split at h
    · rename_i hag
      simp only [hag, if_true] at hc ⊢
      split at h
      · rename_i inf hi
        have hsz : P.cellsOf t = inf.size := by simp [Program.cellsOf, hi]
        split at h
        · rename_i hl
          obtain rfl := Option.some.inj h
          rw [hsz] at hc
          have e1 := run_loadCells_list (P := P) w ⟨g, off, none⟩ (((cs.drop off).take inf.size).map (C.den γ)) (fun j v hv => by
            rw [List.getElem?_map] at hv
            obtain ⟨c, hcj, rfl⟩ := Option.map_eq_some_iff.1 hv
            have hjl : j < inf.size := by
              have := (List.getElem?_eq_some_iff.1 hcj).1
              omega
            rw [List.getElem?_take_of_lt hjl, List.getElem?_drop] at hcj
            rw [add_lit]
            exact hc (off + j) c hcj (by omega) (by omega))
          rw [List.length_map, hl] at e1
          rw [mkAg_den]
          simp only [Sem.run_bind, run_sizeOf w hi, hsz, Result.andThen_ok, e1, Sem.run_pure]
        · cases h
      · cases h
    · rename_i hag
      simp only [hag] at hc ⊢
      split at h
      · rename_i c hcc
        obtain rfl := Option.some.inj h
        have e1 := hc off c hcc (Nat.le_refl _) (by simp)
        simp [e1, AV.den]
      · cases h
  · cases h
theorem loadC_sc {P : Program} {t : TypeId} {cs : List C} {off : Nat} {n : Nat → Prop} {a : AV} (hs : ∀ c ∈ cs, C.sc n c) (h : loadC P t cs off = some a) : a.sc n := by
  unfold loadC at h
  split at h
  · split at h
    · split at h
      · split at h
        · obtain rfl := Option.some.inj h
          exact mkAg_sc fun c hm => hs c (List.mem_of_mem_drop (List.mem_of_mem_take hm))
        · cases h
      · cases h
    · split at h
      · rename_i c hc
        obtain rfl := Option.some.inj h
        exact hs c (List.mem_of_getElem? hc)
      · cases h
  · cases h

/-! ### what makes or writes memory -/
def cellsOf : FV → Option (List C)
  | .av (.one (.v (.agg a))) => some (a.toList.map C.v)
  | .av (.one c) => some [c]
  | .av (.ag cs) => some cs
  | .tu _ => none
theorem cellsOf_den (γ : Nat → Nat × Nat) : ∀ {x : FV} {l : List C}, cellsOf x = some l → (x.den γ).cells = (l.map (C.den γ)).toArray
  | .av (.ag cs), l, h => by obtain rfl := Option.some.inj h; rfl
  | .tu _, _, h => by cases h
  | .av (.one (.p _ _)), l, h => by obtain rfl := Option.some.inj h; rfl
  | .av (.one (.sl _ _ _ _)), l, h => by obtain rfl := Option.some.inj h; rfl
  | .av (.one (.fn _ _ _)), l, h => by obtain rfl := Option.some.inj h; rfl
  | .av (.one (.u _ _)), l, h => by obtain rfl := Option.some.inj h; rfl
  | .av (.one (.v x)), l, h => by
    cases x <;> first
      | (obtain rfl := Option.some.inj h; rfl)
      | (obtain rfl := Option.some.inj h
         rename_i a
         apply Array.ext'
         show a.toList = _
         simp [C.den, Function.comp_def])
theorem cellsOf_sc {n : Nat → Prop} : ∀ {x : FV} {l : List C}, cellsOf x = some l → x.sc n → ∀ c ∈ l, C.sc n c
  | .av (.ag cs), l, h, hx => by obtain rfl := Option.some.inj h; exact hx
  | .tu _, _, h, _ => by cases h
  | .av (.one (.p _ _)), l, h, hx => by obtain rfl := Option.some.inj h; intro c hc; obtain rfl := List.mem_singleton.1 hc; exact hx
  | .av (.one (.sl _ _ _ _)), l, h, hx => by obtain rfl := Option.some.inj h; intro c hc; obtain rfl := List.mem_singleton.1 hc; exact hx
  | .av (.one (.fn _ _ _)), l, h, hx => by obtain rfl := Option.some.inj h; intro c hc; obtain rfl := List.mem_singleton.1 hc; exact hx
  | .av (.one (.u _ _)), l, h, hx => by obtain rfl := Option.some.inj h; intro c hc; obtain rfl := List.mem_singleton.1 hc; exact hx
  | .av (.one (.v x)), l, h, hx => by
    cases x <;> first
      | (obtain rfl := Option.some.inj h; intro c hc; obtain rfl := List.mem_singleton.1 hc; trivial)
      | (obtain rfl := Option.some.inj h
         intro c hc
         obtain ⟨y, _, rfl⟩ := List.mem_map.1 hc
         trivial)
def C.oneB : C → Bool
  | .v x => x.oneCell'
  | _ => true
theorem C.oneB_den (γ : Nat → Nat × Nat) : ∀ {c : C}, c.oneB = true → (c.den γ).oneCell' = true
  | .v _, h => h
  | .p _ _, _ => rfl
  | .sl _ _ _ _, _ => rfl
  | .fn _ _ _, _ => rfl
  | .u _ _, _ => rfl
def putAt (cs : List C) (off : Nat) (l : List C) : List C := l.zipIdx.foldl (fun cs q => cs.set (off + q.2) q.1) cs
def fillC (place : Nat → Option (Nat × Nat)) (cells : List C) : List (Nat × FV) → Option (List C)
  | [] => some cells
  | (i, x) :: rest => match place i with
    | none => none
    | some (off, size) => match cellsOf x with
      | none => none
      | some l => if l.length ≠ size ∨ off + l.length > cells.length then none else fillC place (putAt cells off l) rest
theorem putAt_len (cs : List C) (off : Nat) (l : List C) : (putAt cs off l).length = cs.length := by
  unfold putAt
  generalize l.zipIdx = z
  induction z generalizing cs with
  | nil => rfl
  | cons q r ih => rw [List.foldl_cons, ih, List.length_set]
theorem putAt_den (γ : Nat → Nat × Nat) (off : Nat) (l : List C) (cs : List C) :
    ((l.map (C.den γ)).toArray.zipIdx.foldl (fun cs q => cs.setIfInBounds (off + q.2) q.1) (cs.map (C.den γ)).toArray) = ((putAt cs off l).map (C.den γ)).toArray := by
  unfold putAt
  rw [← Array.foldl_toList, Array.toList_zipIdx]
  have key : ∀ (k : Nat) (l : List C) (cs : List C), ((l.map (C.den γ)).zipIdx k).foldl (fun (cs : Array Value) q => cs.setIfInBounds (off + q.2) q.1) (cs.map (C.den γ)).toArray = (((l.zipIdx k).foldl (fun cs q => cs.set (off + q.2) q.1) cs).map (C.den γ)).toArray := by
    intro k l
    induction l generalizing k with
    | nil => intro cs; rfl
    | cons c r ih =>
      intro cs
      rw [List.map_cons, List.zipIdx_cons, List.zipIdx_cons, List.foldl_cons, List.foldl_cons, ← ih (k + 1)]
      simp [List.map_set]
  exact key 0 l cs
theorem putAt_sc {n : Nat → Prop} {off : Nat} {l cs : List C} (h1 : ∀ c ∈ cs, C.sc n c) (h2 : ∀ c ∈ l, C.sc n c) : ∀ c ∈ putAt cs off l, C.sc n c := by
  unfold putAt
  have key : ∀ (z : List (C × Nat)) (cs : List C), (∀ q ∈ z, C.sc n q.1) → (∀ c ∈ cs, C.sc n c) → ∀ c ∈ z.foldl (fun cs q => cs.set (off + q.2) q.1) cs, C.sc n c := by
    intro z
    induction z with
    | nil => intro cs _ h; exact h
    | cons q r ih =>
      intro cs hq h
      rw [List.foldl_cons]
      refine ih _ (fun x hx => hq x (List.mem_cons_of_mem _ hx)) (fun c hc => ?_)
      rcases mem_set hc with hc | rfl
      · exact h c hc
      · exact hq q List.mem_cons_self
  exact key _ cs (fun q hq => h2 _ (by obtain ⟨h, _⟩ := List.mem_zipIdx' hq; rw [‹q.1 = _›]; exact List.getElem_mem _)) h1

theorem fillC_den (γ : Nat → Nat × Nat) (place : Nat → Option (Nat × Nat)) : ∀ (parts : List (Nat × FV)) (cells l : List C), fillC place cells parts = some l →
    Instr.fill place (cells.map (C.den γ)).toArray (parts.map fun q => (q.1, q.2.den γ)) = some (l.map (C.den γ)).toArray
  | [], cells, l, h => by obtain rfl := Option.some.inj h; rfl
  | (i, x) :: rest, cells, l, h => by
    unfold fillC at h
    rw [List.map_cons]
    unfold Instr.fill
    simp only
    split at h
    · cases h
    · rename_i off size hp
      rw [hp]
      simp only
      split at h
      · cases h
      · rename_i lx hx
        split at h
        · cases h
        · rename_i hn
          have e1 := cellsOf_den γ hx
          have e2 : (x.den γ).cells.size = lx.length := by rw [e1]; simp
          rw [if_neg (by rw [e2]; simpa using hn), e1, putAt_den]
          exact fillC_den γ place rest _ l h
theorem fillC_sc {n : Nat → Prop} (place : Nat → Option (Nat × Nat)) : ∀ (parts : List (Nat × FV)) (cells l : List C), fillC place cells parts = some l → (∀ c ∈ cells, C.sc n c) → (∀ q ∈ parts, FV.sc n q.2) → ∀ c ∈ l, C.sc n c
  | [], cells, l, h, h1, _ => by obtain rfl := Option.some.inj h; exact h1
  | (i, x) :: rest, cells, l, h, h1, h2 => by
    unfold fillC at h
    split at h
    · cases h
    · split at h
      · cases h
      · rename_i lx hx
        split at h
        · cases h
        · exact fillC_sc place rest _ l h (putAt_sc h1 (cellsOf_sc hx (h2 _ List.mem_cons_self))) (fun q hq => h2 q (List.mem_cons_of_mem _ hq))
/-- What an operation that makes or writes memory yields, and the blocks behind it. -/
def newAt (st : St) (o : Oper) : Option Nat := match o.dst with
  | some d => match getE st.hp (newId st.hp st.fr.length 1000 d) with
    | none => some (newId st.hp st.fr.length 1000 d)
    | some _ => none
  | none => none
theorem newAt_none {st : St} {o : Oper} {k : Nat} (h : newAt st o = some k) : getE st.hp k = none := by
  unfold newAt at h
  split at h
  · split at h
    · rename_i hk
      obtain rfl := Option.some.inj h
      exact hk
    · cases h
  · cases h
def stepE (P : Program) (st : St) (o : Oper) : Option (FV × Hp) :=
  match o.op with
  | .box elem x => match cellsOf (ev st.fr x) with
    | some l => match newAt st o with
      | some k => some (.av (.one (.p k 0)), setB st.hp k ⟨l, elem⟩)
      | none => none
    | none => none
  | .alloc elem => match (P.info? elem).bind (·.zero) with
    | some z => match cellsOf (pv z) with
      | some l => match newAt st o with
        | some k => some (.av (.one (.p k 0)), setB st.hp k ⟨l, elem⟩)
        | none => none
      | none => none
    | none => none
  | .store t a x => match ev st.fr a with
    | .av (.one (.p i off)) => match getB st.hp i with
      | some b => match cellsOf (ev st.fr x) with
        | some l => match P.info? t with
          | some inf => if l.length = inf.size ∧ off + l.length ≤ b.cs.length ∧ l.all C.oneB = true then some (pv undef, setB st.hp i ⟨b.cs.take off ++ l ++ b.cs.drop (off + l.length), b.ty⟩) else none
          | none => none
        | none => none
      | none => none
    | _ => none
  | .buildSlice t len parts => match P.underlying t with
    | some (.slice e) => match P.info? e with
      | some inf => if len * inf.size > 2 ^ 24 ∨ len * inf.size = 0 then none else match inf.zero with
        | some z => match cellsOf (pv z) with
          | some zl => match fillC (fun i => some (i * inf.size, inf.size)) ((List.range (len * inf.size)).map fun i => zl.getD (i % zl.length) (.v undef)) (parts.toList.map fun q => (q.1, ev st.fr q.2)) with
            | some l => if zl.length = 0 then none else match newAt st o with
              | some k => some (.av (.one (.sl k 0 len len)), setB st.hp k ⟨l, e⟩)
              | none => none
            | none => none
          | none => none
        | none => none
      | none => none
    | _ => none
  | _ => none
/-- What is asked of an operation's step: in every world that bears the state it runs, and leaves one that bears the state behind it. -/
def Runs (P : Program) (γ : Nat → Nat × Nat) (st : St) (o : Oper) (w0 : World) (bs : List Nat) (w : World) (x : FV) (hp : Hp) : Prop :=
  ∃ γ' w', (∀ i, Dom st.hp i → γ i = γ' i) ∧ Loc γ' ⟨st.fr, hp⟩ w0 bs w' ∧ x.sc (Dom hp) ∧ Sub st.hp hp ∧
    ∀ (K : Act → World → Prop) (Q : Exit → Act → World → Prop), K ((act γ st.fr).put o.dst (x.den γ')) w' → o.wp P (act γ st.fr) w K Q
theorem Runs.value {P : Program} {γ : Nat → Nat × Nat} {st : St} {o : Oper} {w0 : World} {bs : List Nat} {w : World} {x : FV} (hl : Loc γ st w0 bs w) (hx : x.sc (Dom st.hp)) (hr : (execOp (act γ st.fr).eval o).run P w = .ok (.value (x.den γ)) w) :
    Runs P γ st o w0 bs w x st.hp :=
  ⟨γ, w, fun _ _ => rfl, hl, hx, Sub.refl _, fun K Q hK => by unfold Oper.wp; rw [hr]; exact hK⟩
theorem alloc_runs {P : Program} {γ : Nat → Nat × Nat} {st : St} {o : Oper} {w0 : World} {bs : List Nat} {w : World} (hl : Loc γ st w0 bs w) {k : Nat} (hk : getE st.hp k = none) (l : List C) (hc : ∀ c ∈ l, C.sc (Dom st.hp) c) (e : TypeId) (x : FV)
    (hx : ∀ S : Nat → Prop, S k → x.sc S) (v : Value) (hv : ∀ γ' : Nat → Nat × Nat, (γ' k).1 = w.heap.size → x.den γ' = v)
    (hr : (execOp (act γ st.fr).eval o).run P w = .ok (.value v) (w.alloc (.cells (l.map (C.den γ)).toArray e))) : Runs P γ st o w0 bs w x (setB st.hp k ⟨l, e⟩) := by
  refine ⟨upd γ k (w.heap.size, 0), _, fun i hi => (upd_ne ?_).symm, hl.alloc hk l e hc, hx _ (dom_of (getB_self _ _ _)), Sub.set _ _ _, fun K Q hK => ?_⟩
  · rintro rfl
    obtain ⟨b, hb⟩ := hi
    rw [hk] at hb
    cases hb
  · unfold Oper.wp
    rw [hr]
    rw [hv _ (by rw [upd_at])] at hK
    exact hK
theorem stepE_runs {P : Program} {γ : Nat → Nat × Nat} {st : St} {o : Oper} {w0 : World} {bs : List Nat} {w : World} {x : FV} {hp : Hp} (hl : Loc γ st w0 bs w) (h : stepE P st o = some (x, hp)) : Runs P γ st o w0 bs w x hp := by
  have hE : ∀ z, FV.sc (Dom st.hp) (ev st.fr z) := fun z => ev_sc hl.scf z
  unfold stepE at h
  split at h
  · rename_i elem y hop
    split at h
    · rename_i l hy
      split at h
      case h_2 => cases h
      rename_i k hk
      simp only [Option.some.injEq, Prod.mk.injEq] at h
      obtain ⟨rfl, rfl⟩ := h
      refine alloc_runs hl (newAt_none hk) l (cellsOf_sc hy (hE y)) elem _ (fun S hS => hS) (.pointer (some ⟨w.heap.size, 0, none⟩)) (fun γ' e => by simp [FV.den, AV.den, C.den, e]) ?_
      unfold execOp
      simp only [hop, Instr.box, newVar, newRow, ev_den, cellsOf_den γ hy]
      rfl
    · cases h
  · rename_i elem hop
    split at h
    · rename_i z hz
      split at h
      · rename_i l hy
        split at h
        case h_2 => cases h
        rename_i k hk
        simp only [Option.some.injEq, Prod.mk.injEq] at h
        obtain ⟨rfl, rfl⟩ := h
        refine alloc_runs hl (newAt_none hk) l (cellsOf_sc hy trivial) elem _ (fun S hS => hS) (.pointer (some ⟨w.heap.size, 0, none⟩)) (fun γ' e => by simp [FV.den, AV.den, C.den, e]) ?_
        obtain ⟨inf, hi, hz2⟩ := Option.bind_eq_some_iff.1 hz
        have hc := cellsOf_den γ hy
        change z.cells = _ at hc
        unfold execOp
        simp only [hop, Instr.alloc, newVar, newRow, zeroValue, Sem.run_bind, run_typeInfo w hi, hz2, Result.andThen_ok, Sem.run_pure, hc]
        rfl
      · cases h
    · cases h
  · rename_i t a y hop
    split at h
    · rename_i i off ha
      split at h
      · rename_i b hb
        split at h
        · rename_i l hy
          split at h
          · rename_i inf hi
            split at h
            · rename_i hcnd
              obtain ⟨h1, h2, h3⟩ := hcnd
              simp only [Option.some.injEq, Prod.mk.injEq] at h
              obtain ⟨rfl, rfl⟩ := h
              have hblk := hl.blk i b hb
              have hsz : P.cellsOf t = l.length := by simp [Program.cellsOf, hi, h1]
              have e1 : (act γ st.fr).eval a = .pointer (some ⟨(γ i).1, off, none⟩) := by rw [ev_den, ha]; rfl
              have e2 := run_storeCells_at P (γ i).1 off b.ty (l.map (C.den γ)) 0 _ w hblk (by simpa using h2) (fun v hv => by
                obtain ⟨c, hc, rfl⟩ := List.mem_map.1 hv
                exact C.oneB_den γ (List.all_eq_true.1 h3 c hc))
              have e3 : (b.cs.map (C.den γ)).toArray.toList.take (off + 0) ++ l.map (C.den γ) ++ (b.cs.map (C.den γ)).toArray.toList.drop (off + 0 + (l.map (C.den γ)).length) = (b.cs.take off ++ l ++ b.cs.drop (off + l.length)).map (C.den γ) := by
                simp [List.map_take, List.map_drop]
              rw [e3] at e2
              have hcs : ∀ c ∈ b.cs.take off ++ l ++ b.cs.drop (off + l.length), C.sc (Dom st.hp) c := by
                intro c hc
                rcases List.mem_append.1 hc with hc | hc
                · rcases List.mem_append.1 hc with hc | hc
                  · exact hl.sch i b hb c (List.mem_of_mem_take hc)
                  · exact cellsOf_sc hy (hE y) c hc
                · exact hl.sch i b hb c (List.mem_of_mem_drop hc)
              have hcl := cellsOf_den γ hy
              refine ⟨γ, _, fun _ _ => rfl, hl.setRow hb _ hcs, trivial, Sub.set _ _ _, fun K Q hK => ?_⟩
              unfold Oper.wp
              have hr : (execOp (act γ st.fr).eval o).run P w = .ok .skip (w.setRow (γ i).1 ((b.cs.take off ++ l ++ b.cs.drop (off + l.length)).map (C.den γ)).toArray) := by
                unfold execOp
                simp only [hop, e1, ev_den, Instr.storeAt, Instr.sureAddr, storeVar, hcl, Sem.run_bind, Sem.run_pure, Result.andThen_ok, run_sizeOf w hi, hsz, Sem.run_ite, List.size_toArray, List.length_map, ne_eq, not_true, if_false, e2]
              rw [hr]
              exact hK
            · cases h
          · cases h
        · cases h
      · cases h
    · cases h
  · rename_i t len parts hop
    split at h
    · rename_i e ht
      split at h
      · rename_i inf hi
        split at h
        · cases h
        · rename_i hn
          split at h
          · rename_i z hz
            split at h
            · rename_i zl hzl
              split at h
              · rename_i l hfl
                split at h
                · cases h
                · rename_i hz0
                  split at h
                  case h_2 => cases h
                  rename_i k hk
                  simp only [Option.some.injEq, Prod.mk.injEq] at h
                  obtain ⟨rfl, rfl⟩ := h
                  have hn1 : ¬ len * inf.size > 2 ^ 24 := fun q => hn (.inl q)
                  have hn2 : ¬ len * inf.size = 0 := fun q => hn (.inr q)
                  have hsz : P.cellsOf e = inf.size := by simp [Program.cellsOf, hi]
                  have hzc := cellsOf_den γ hzl
                  change z.cells = _ at hzc
                  have hzs : z.cells.size = zl.length := by rw [hzc]; simp
                  have hzsc : ∀ c ∈ zl, C.sc (Dom st.hp) c := cellsOf_sc hzl trivial
                  have hf := fillC_den γ _ _ _ _ hfl
                  have hsc := fillC_sc (n := Dom st.hp) _ _ _ _ hfl (fun c hc => by
                    obtain ⟨i, hi, rfl⟩ := List.mem_map.1 hc
                    rw [List.getD_eq_getElem?_getD]
                    cases hq : zl[i % zl.length]? with
                    | none => trivial
                    | some c => exact hzsc c (List.mem_of_getElem? hq)) (fun q hq => by obtain ⟨p, _, rfl⟩ := List.mem_map.1 hq; exact hE _)
                  refine alloc_runs hl (newAt_none hk) l hsc e _ (fun S hS => hS) (.slice (some ⟨w.heap.size, 0, none⟩) len len) (fun γ' e => by simp [FV.den, AV.den, C.den, e]) ?_
                  have hzz : (((List.range (len * inf.size)).map fun i => zl.getD (i % zl.length) (.v undef)).map (C.den γ)).toArray = (Array.range (len * inf.size)).map (z.cells[· % z.cells.size]!) := by
                    apply Array.ext'
                    rw [Array.toList_map, List.map_map]
                    simp only [Array.toList_range]
                    refine List.map_congr_left fun i _ => ?_
                    have hlt : i % zl.length < zl.length := Nat.mod_lt _ (by omega)
                    have hlt2 : i % z.cells.size < z.cells.size := by rw [hzs]; exact hlt
                    simp only [Function.comp]
                    rw [getElem!_pos z.cells _ hlt2, List.getD_eq_getElem?_getD, List.getElem?_eq_getElem hlt]
                    simp only [hzc, Option.getD_some]
                    simp
                  rw [hzz] at hf
                  have hp2 : (parts.map fun (i, x) => (i, (act γ st.fr).eval x)).toList = (parts.toList.map fun q => (q.1, ev st.fr q.2)).map fun q => (q.1, q.2.den γ) := by
                    rw [Array.toList_map, List.map_map]
                    refine List.map_congr_left fun q _ => ?_
                    simp [ev_den]
                  unfold execOp
                  simp only [hop, Instr.buildSlice, Sem.run_bind, run_underlying ht, Result.andThen_ok, run_sizeOf w hi, hsz, Sem.run_ite, if_neg hn1, if_neg hn2, Sem.run_pure, zeroValue, run_typeInfo w hi, hz, hp2, hf, newRow]
                  rfl
              · cases h
            · cases h
          · cases h
      · cases h
    · cases h
  · cases h

/-! ### rows that grow -/
/-- A load out of a row. -/
def stepLR (P : Program) (st : St) (o : Oper) : Option FV := match o.op with
  | .load t a => match ev st.fr a with
    | .av (.one (.p i off)) => match getE st.hp i with
      | some (.r cs _ _) => match loadC P t cs off with
        | some a => some (.av a)
        | none => none
      | _ => none
    | _ => none
  | _ => none
def kill (hp : Hp) : Option Nat → Hp
  | none => hp
  | some i => setE hp i .d
def stepA (P : Program) (st : St) (o : Oper) : Option (FV × Hp) := match o.op with
  | .call ⟨.builtin .append, args, tys⟩ => match args.toList, tys.toList with
    | [s, x], [ts, tx] => if ts = tx then match P.underlying ts with
      | some (.slice e) => match P.info? e with
        | some inf => match inf.zero with
          | some z => match ev st.fr x with
            | .av (.one (.sl j off m _)) => match getB st.hp j with
              | some b => match newAt st o with
                | some k => if ((b.cs.drop off).take (m * inf.size)).length = m * inf.size ∧ 0 < m ∧ 0 < inf.size ∧ z.cells.size = inf.size ∧ ((b.cs.drop off).take (m * inf.size)).all C.oneB = true then match ev st.fr s with
                    | .av (.one (.v (.slice none 0 0))) => if m * inf.bytes ≤ 140737488355328 ∧ m ≤ 1000000 then some (.av (.one (.u k m)), setE (kill st.hp none) k (.r ((b.cs.drop off).take (m * inf.size)) e inf.size)) else none
                    | .av (.one (.u i n)) => match getE st.hp i with
                      | some (.r cs ty sz) => if ty = e ∧ sz = inf.size ∧ cs.length = n * sz ∧ (n + m) * inf.bytes ≤ 140737488355328 ∧ n + m ≤ 1000000 then some (.av (.one (.u k (n + m))), setE (kill st.hp (some i)) k (.r (cs ++ (b.cs.drop off).take (m * inf.size)) e inf.size)) else none
                      | _ => none
                    | _ => none
                  else none
                | none => none
              | none => none
            | _ => none
          | none => none
        | none => none
      | _ => none
      else none
    | _, _ => none
  | _ => none
section
variable {P : Program} {γ : Nat → Nat × Nat} {st : St} {o : Oper} {w0 w : World} {bs : List Nat} {x : FV} {hp : Hp}
theorem row_cell {e : TypeId} {sz k g cap : Nat} {xs : List Value} (h : w.ownsRow 0 e sz (.slice (some ⟨g, 0, none⟩) k cap) k xs) {j : Nat} {u : Value} (hu : xs[j]? = some u) : w.cell? ⟨g, j, none⟩ = some u := by
  have := h.cells (g := g) rfl j u hu
  rwa [add_lit, Nat.zero_add] at this
theorem stepLR_run (hl : Loc γ st w0 bs w) (h : stepLR P st o = some x) : (execOp (act γ st.fr).eval o).run P w = .ok (.value (x.den γ)) w ∧ x.sc (Dom st.hp) := by
  unfold stepLR at h
  split at h
  · rename_i t a hop
    split at h
    · rename_i i off ha
      split at h
      · rename_i cs ty sz hb
        split at h
        · rename_i y hy
          obtain rfl := Option.some.inj h
          obtain ⟨_, k, hrow⟩ := hl.row i cs ty sz hb
          have ea : (act γ st.fr).eval a = .pointer (some ⟨(γ i).1, off, none⟩) := by rw [ev_den, ha]; rfl
          have e1 := loadC_run (γ := γ) (g := (γ i).1) (w := w) hy (fun j c hc _ _ => row_cell hrow (by rw [List.getElem?_map, hc]; rfl))
          refine ⟨?_, loadC_sc (hl.scr i cs ty sz hb) hy⟩
          unfold execOp
          simp only [hop, ea, Sem.run_bind, e1, Result.andThen_ok]
          rfl
        · cases h
      · cases h
    · cases h
  · cases h
theorem Loc.grown (h : Loc γ st w0 bs w) {k : Nat} (hk : getE st.hp k = none) (old : Option Nat) (hold : ∀ i, old = some i → Live st.hp i) {w' : World} (hg : w.grownBy w' (old.map fun i => (γ i).1)) {g' cap' n : Nat}
    (hg' : (∃ i, old = some i ∧ g' = (γ i).1) ∨ g' = w.heap.size) {cs : List C} {ty : TypeId} {sz : Nat} (hsz : 0 < sz) (hsc : ∀ c ∈ cs, C.sc (Dom st.hp) c) (hown : w'.ownsRow 0 ty sz (.slice (some ⟨g', 0, none⟩) n cap') n (cs.map (C.den γ))) :
    Sub st.hp (setE (kill st.hp old) k (.r cs ty sz)) ∧ (∀ i, Dom st.hp i → γ i = upd γ k (g', cap') i) ∧ Loc (upd γ k (g', cap')) ⟨st.fr, setE (kill st.hp old) k (.r cs ty sz)⟩ w0 bs w' := by
  have hne : ∀ i, Dom st.hp i → i ≠ k := by
    rintro i ⟨b, hb⟩ rfl
    rw [hk] at hb
    cases hb
  have hag : ∀ i, Dom st.hp i → γ i = upd γ k (g', cap') i := fun i hi => (upd_ne (hne i hi)).symm
  have hs1 : Sub st.hp (kill st.hp old) := by
    cases old with
    | none => exact Sub.refl _
    | some i => exact Sub.setE _ _ _
  have hsub : Sub st.hp (setE (kill st.hp old) k (.r cs ty sz)) := hs1.trans (Sub.setE _ _ _)
  -- what lives on in the old ones
  have hlive : ∀ j e, j ≠ k → getE (setE (kill st.hp old) k (.r cs ty sz)) j = some e → e ≠ .d → getE st.hp j = some e ∧ old ≠ some j := by
    intro j e hjk hj hd
    rw [getE_ne _ _ _ _ (Ne.symm hjk)] at hj
    cases old with
    | none => exact ⟨hj, by simp⟩
    | some i =>
      by_cases e2 : i = j
      · subst e2
        unfold kill at hj
        rw [getE_self] at hj
        exact absurd (Option.some.inj hj).symm hd
      · unfold kill at hj
        rw [getE_ne _ _ _ _ e2] at hj
        exact ⟨hj, fun e3 => e2 (Option.some.inj e3)⟩
  have hdom : ∀ j, j ≠ k → Dom (setE (kill st.hp old) k (.r cs ty sz)) j → Dom st.hp j := by
    intro j hjk hj
    rcases dom_setE hj with rfl | hj
    · exact absurd rfl hjk
    · cases old with
      | none => exact hj
      | some i =>
        rcases dom_setE hj with rfl | hj
        · exact (hold j rfl).dom
        · exact hj
  have hself : ∀ e, getE (setE (kill st.hp old) k (.r cs ty sz)) k = some e → e = .r cs ty sz := fun e he => by rw [getE_self] at he; exact (Option.some.inj he).symm
  have hheap : ∀ j, Live st.hp j → old ≠ some j → w'.heap[(γ j).1]? = w.heap[(γ j).1]? := by
    intro j hj ho
    refine hg.block _ (h.lt hj) ?_
    cases old with
    | none => simp
    | some i =>
      intro e
      simp only [Option.map_some, Option.some.injEq] at e
      exact ho (congrArg some (h.inj i j (hold i rfl) hj e.symm))
  refine ⟨hsub, hag, ⟨⟨hg.os.trans h.kept.os, hg.tape.trans h.kept.tape, hg.output.trans h.kept.output, Nat.le_trans h.kept.size hg.size, fun q hq hn => ?_⟩, fun j b hj => ?_, fun j hj => ?_, fun i j hi hj e => ?_, fun y hy => FV.sc_mono hsub (h.scf y hy), fun j b hj c hc => ?_, fun j cs' ty' sz' hj => ?_, fun j cs' ty' sz' hj c hc => ?_⟩⟩
  · refine (hg.block q (Nat.lt_of_lt_of_le hq h.kept.size) ?_).trans (h.kept.block q hq hn)
    cases old with
    | none => simp
    | some i =>
      intro e
      simp only [Option.map_some, Option.some.injEq] at e
      rcases h.own i (hold i rfl).dom with h1 | h1
      · omega
      · rw [← e] at h1; exact hn h1
  · have hj' := getB_iff.1 hj
    by_cases e : j = k
    · subst e; have := hself _ hj'; cases this
    · obtain ⟨h1, h2⟩ := hlive j _ e hj' (by intro e; cases e)
      rw [upd_ne e, ← List.map_congr_left (fun c hm => C.agree hag (h.sch j b (getB_iff.2 h1) c hm)), hheap j ⟨_, h1, by intro e; cases e⟩ h2]
      exact h.blk j b (getB_iff.2 h1)
  · by_cases e : j = k
    · subst e
      rw [upd_at]
      rcases hg' with ⟨i, hi, rfl⟩ | rfl
      · exact h.own i (hold i hi).dom
      · exact .inl h.kept.size
    · rw [upd_ne e]; exact h.own j (hdom j e hj)
  · have key : ∀ j, j ≠ k → Live (setE (kill st.hp old) k (.r cs ty sz)) j → g' ≠ (γ j).1 := by
      intro j hjk hj e
      obtain ⟨b, hb, hd⟩ := hj
      obtain ⟨h1, h2⟩ := hlive j b hjk hb hd
      rcases hg' with ⟨i, hi, rfl⟩ | rfl
      · exact h2 (hi.trans (congrArg some (h.inj i j (hold i hi) ⟨b, h1, hd⟩ e)))
      · have := h.lt (i := j) ⟨b, h1, hd⟩
        omega
    by_cases ei : i = k <;> by_cases ej : j = k
    · rw [ei, ej]
    · subst ei; rw [upd_at, upd_ne ej] at e; exact absurd e (key j ej hj)
    · subst ej; rw [upd_at, upd_ne ei] at e; exact absurd e.symm (key i ei hi)
    · rw [upd_ne ei, upd_ne ej] at e
      obtain ⟨b, hb, hd⟩ := hi
      obtain ⟨b', hb', hd'⟩ := hj
      exact h.inj i j ⟨b, (hlive i b ei hb hd).1, hd⟩ ⟨b', (hlive j b' ej hb' hd').1, hd'⟩ e
  · have hj' := getB_iff.1 hj
    by_cases e : j = k
    · subst e; have := hself _ hj'; cases this
    · exact C.sc_mono hsub (h.sch j b (getB_iff.2 (hlive j _ e hj' (by intro e; cases e)).1) c hc)
  · by_cases e : j = k
    · subst e
      have := hself _ hj
      injection this with h1 h2 h3
      subst h1 h2 h3
      rw [upd_at, ← List.map_congr_left (fun c hm => C.agree hag (hsc c hm))]
      exact ⟨hsz, n, hown⟩
    · obtain ⟨h1, h2⟩ := hlive j _ e hj (by intro e; cases e)
      obtain ⟨h3, q, h4⟩ := h.row j cs' ty' sz' h1
      rw [upd_ne e, ← List.map_congr_left (fun c hm => C.agree hag (h.scr j cs' ty' sz' h1 c hm))]
      exact ⟨h3, q, row_kept h4 rfl (hheap j (live_r h1) h2)⟩
  · by_cases e : j = k
    · subst e
      have := hself _ hj
      injection this with h1 h2 h3
      subst h1 h2 h3
      exact C.sc_mono hsub (hsc c hc)
    · exact C.sc_mono hsub (h.scr j cs' ty' sz' (hlive j _ e hj (by intro e; cases e)).1 c hc)
theorem append_row {t ty e : TypeId} {i : TypeInfo} {z : Value} (ht : P.underlying t = some (.slice e)) (hi : P.info? e = some i) (hz : i.zero = some z) (hzs : z.cells.size = i.size) (hsz : 0 < i.size)
    {v : Value} {n : Nat} {xs : List Value} (hown : w.ownsRow 0 e i.size v n xs) (a : Addr) (m c : Nat) (news : List Value) (hl : news.length = m * i.size) (hnews : ∀ j u, news[j]? = some u → w.cell? (a.add j) = some u) (h1 : ∀ u ∈ news, u.oneCell' = true)
    (hm : 0 < m) (hn : n + m ≤ 1000000) (hb : (n + m) * i.bytes ≤ 140737488355328) :
    ∃ g' cap' w', (Builtin.append_ #[t, t] ty #[v, .slice (some a) m c]).run P w = .ok (.slice (some ⟨g', 0, none⟩) (n + m) cap') w' ∧ w'.ownsRow 0 e i.size (.slice (some ⟨g', 0, none⟩) (n + m) cap') (n + m) (xs ++ news) ∧ w.grownBy w' v.ownBlock ∧ (v.ownBlock = some g' ∨ g' = w.heap.size) := by
  obtain ⟨v', w', hr, ho, hg, hnil⟩ := run_append_own (P := P) w 0 t ty e i z i.size i.bytes ht hi hz rfl rfl hzs hsz v n xs hown a m c news hl hnews h1 (by unfold maxLen; omega) hb (Nat.zero_le _)
  have key : ∀ g' cap' w2, (Builtin.append_ #[t, t] ty #[v, .slice (some a) m c]).run P w = .ok (.slice (some ⟨g', 0, none⟩) (n + m) cap') w2 → (v.ownBlock = some g' ∨ g' = w.heap.size) →
      ∃ g' cap' w', (Builtin.append_ #[t, t] ty #[v, .slice (some a) m c]).run P w = .ok (.slice (some ⟨g', 0, none⟩) (n + m) cap') w' ∧ w'.ownsRow 0 e i.size (.slice (some ⟨g', 0, none⟩) (n + m) cap') (n + m) (xs ++ news) ∧ w.grownBy w' v.ownBlock ∧ (v.ownBlock = some g' ∨ g' = w.heap.size) := by
    intro g' cap' w2 hr2 hor
    have := hr2.symm.trans hr
    injection this with e1 e2
    subst e1 e2
    exact ⟨g', cap', w2, hr2, ho, hg, hor⟩
  rcases hown.2 with ⟨rfl, rfl⟩ | ⟨g, cap, cur, rfl, _, hgg, hnc, hcm, hcs, htake⟩
  · have := run_append_nil (P := P) w t ty e i z ht hi hz a m c news hl hnews hm (by omega) (by rw [Nat.zero_add] at hb; omega)
    rw [Nat.zero_add]
    have k2 := key _ _ _ (by rw [Nat.zero_add]; exact this) (.inr rfl)
    rwa [Nat.zero_add] at k2
  · by_cases hroom : n + m ≤ cap
    · refine key g cap _ (run_append_room (P := P) w t ty e i ht hi g n cap cur hgg a m c news hl hnews h1 hroom ?_) (.inl rfl)
      rw [hl, hcs, ← Nat.add_mul]
      exact Nat.mul_le_mul_right _ hroom
    · refine key w.heap.size _ _ (run_append_grow (P := P) w t ty e i z ht hi hz ⟨g, 0, none⟩ n cap xs hown.1 (fun j u hu => hown.cells rfl j u hu) a m c news hl hnews (by omega) (by omega) (growslice_fits (by omega) hb)) (.inr rfl)
theorem stepA_runs (hl : Loc γ st w0 bs w) (h : stepA P st o = some (x, hp)) : Runs P γ st o w0 bs w x hp := by
  unfold stepA at h
  split at h
  case h_2 => cases h
  rename_i args tys hop
  split at h
  case h_2 => cases h
  rename_i s y ts tx hargs htys
  split at h
  case isFalse => cases h
  rename_i hts
  subst hts
  split at h
  case h_2 => cases h
  rename_i e ht
  split at h
  case h_2 => cases h
  rename_i inf hi
  split at h
  case h_2 => cases h
  rename_i z hz
  split at h
  case h_2 => cases h
  rename_i j off m cap hy
  split at h
  case h_2 => cases h
  rename_i b hb
  split at h
  case h_2 => cases h
  rename_i k hk
  split at h
  case isFalse => cases h
  rename_i hc
  obtain ⟨hlen, hm, hsz, hzs, hone⟩ := hc
  obtain rfl : args = #[s, y] := by apply Array.ext'; simp [hargs]
  obtain rfl : tys = #[ts, ts] := by apply Array.ext'; simp [htys]
  have ey : (act γ st.fr).eval y = .slice (some ⟨(γ j).1, off, none⟩) m cap := by rw [ev_den, hy]; rfl
  have hnews : ∀ (q : Nat) (u : Value), (((b.cs.drop off).take (m * inf.size)).map (C.den γ))[q]? = some u → w.cell? ((⟨(γ j).1, off, none⟩ : Addr).add q) = some u := by
    intro q u hu
    rw [add_lit]
    rw [List.getElem?_map] at hu
    obtain ⟨c, hc, rfl⟩ := Option.map_eq_some_iff.1 hu
    rw [List.getElem?_take] at hc
    split at hc
    · rw [List.getElem?_drop] at hc
      exact hl.cell hb hc
    · cases hc
  have hone' : ∀ u ∈ ((b.cs.drop off).take (m * inf.size)).map (C.den γ), u.oneCell' = true := fun u hu => by
    obtain ⟨c, hc, rfl⟩ := List.mem_map.1 hu
    exact C.oneB_den γ (List.all_eq_true.1 hone c hc)
  have hsc : ∀ c ∈ (b.cs.drop off).take (m * inf.size), C.sc (Dom st.hp) c := fun c hc => hl.sch j b hb c (List.mem_of_mem_drop (List.mem_of_mem_take hc))
  have fin : ∀ (old : Option Nat) (hold : ∀ i, old = some i → Live st.hp i) (v : Value) (n : Nat) (cs : List C), (act γ st.fr).eval s = v → v.ownBlock = old.map (fun i => (γ i).1) → w.ownsRow 0 e inf.size v n (cs.map (C.den γ)) → (∀ c ∈ cs, C.sc (Dom st.hp) c) → n + m ≤ 1000000 → (n + m) * inf.bytes ≤ 140737488355328 →
      Runs P γ st o w0 bs w (.av (.one (.u k (n + m)))) (setE (kill st.hp old) k (.r (cs ++ (b.cs.drop off).take (m * inf.size)) e inf.size)) := by
    intro old hold v n cs ev0 hvb hown hcs hn hbt
    obtain ⟨g', cap', w', hr, ho, hg, hor⟩ := append_row (P := P) (ty := o.type) ht hi hz hzs hsz hown ⟨(γ j).1, off, none⟩ m cap _ (by rw [List.length_map]; exact hlen) hnews hone' hm hn hbt
    rw [hvb] at hg hor
    rw [← List.map_append] at ho
    obtain ⟨hsub, hag, hl'⟩ := hl.grown (newAt_none hk) old hold hg (by
      rcases hor with h1 | h1
      · cases old with
        | none => cases h1
        | some i => exact .inl ⟨i, rfl, (Option.some.inj h1).symm⟩
      · exact .inr h1) hsz (fun c hc => by
        rcases List.mem_append.1 hc with hc | hc
        · exact hcs c hc
        · exact hsc c hc) ho
    refine ⟨_, w', hag, hl', ⟨_, getE_self _ _ _⟩, hsub, fun K Q hK => ?_⟩
    have hrun : (execOp (act γ st.fr).eval o).run P w = .ok (.value (.slice (some ⟨g', 0, none⟩) (n + m) cap')) w' := by
      unfold execOp
      simp [hop, resolve, invoke, builtin, ev0, ey, hr]
    unfold Oper.wp
    rw [hrun]
    have hd : (FV.av (.one (.u k (n + m)))).den (upd γ k (g', cap')) = .slice (some ⟨g', 0, none⟩) (n + m) cap' := by
      show Value.slice _ _ _ = _
      rw [upd_at]
    rw [hd] at hK
    exact hK
  split at h
  · rename_i hs
    split at h
    case isFalse => cases h
    rename_i hcnd
    simp only [Option.some.injEq, Prod.mk.injEq] at h
    obtain ⟨rfl, rfl⟩ := h
    have := fin none (fun i hi => by cases hi) (.slice none 0 0) 0 [] (by rw [ev_den, hs]; rfl) rfl (World.ownsRow_nil _ _ _ _) (fun c hc => by cases hc) (by omega) (by rw [Nat.zero_add]; exact hcnd.1)
    rw [Nat.zero_add, List.nil_append] at this
    exact this
  · rename_i i n hs
    split at h
    case h_2 => cases h
    rename_i cs ty sz hrow
    split at h
    case isFalse => cases h
    rename_i hcnd
    obtain ⟨rfl, rfl, hcl, hbt, hn⟩ := hcnd
    simp only [Option.some.injEq, Prod.mk.injEq] at h
    obtain ⟨rfl, rfl⟩ := h
    obtain ⟨_, q, hq⟩ := hl.row i cs ty _ hrow
    have hqn : q = n := by
      have := hq.1
      rw [List.length_map, hcl] at this
      exact (Nat.eq_of_mul_eq_mul_right hsz this).symm
    subst hqn
    exact fin (some i) (fun i' hi' => by cases hi'; exact live_r hrow) (.slice (some ⟨(γ i).1, 0, none⟩) q (γ i).2) q cs (by rw [ev_den, hs]; rfl) rfl hq (hl.scr i cs ty _ hrow) hn hbt
  · cases h
theorem stepA_sub (h : stepA P st o = some (x, hp)) : Sub st.hp hp ∧ ∀ q b, getB st.hp q = some b → getB hp q = some b := by
  unfold stepA at h
  split at h
  case h_2 => cases h
  split at h
  case h_2 => cases h
  split at h
  case isFalse => cases h
  split at h
  case h_2 => cases h
  split at h
  case h_2 => cases h
  split at h
  case h_2 => cases h
  split at h
  case h_2 => cases h
  split at h
  case h_2 => cases h
  split at h
  case h_2 => cases h
  rename_i k hk
  have hk' := newAt_none hk
  split at h
  case isFalse => cases h
  split at h
  · split at h
    case isFalse => cases h
    simp only [Option.some.injEq, Prod.mk.injEq] at h
    obtain ⟨rfl, rfl⟩ := h
    refine ⟨Sub.setE _ _ _, fun q b hb => ?_⟩
    refine (getB_of _ st.hp q ?_).trans hb
    refine getE_ne _ _ _ _ ?_
    rintro rfl
    rw [getB_iff] at hb
    rw [hk'] at hb
    cases hb
  · rename_i i n hs
    split at h
    case h_2 => cases h
    rename_i cs ty sz hrow
    split at h
    case isFalse => cases h
    simp only [Option.some.injEq, Prod.mk.injEq] at h
    obtain ⟨rfl, rfl⟩ := h
    refine ⟨(Sub.setE _ i .d).trans (Sub.setE _ _ _), fun q b hb => ?_⟩
    refine (getB_of _ st.hp q ((getE_ne _ _ _ _ ?_).trans (getE_ne _ _ _ _ ?_))).trans hb
    · rintro rfl
      rw [getB_iff] at hb
      rw [hk'] at hb
      cases hb
    · rintro rfl
      rw [getB_iff] at hb
      rw [hrow] at hb
      cases hb
  · cases h
end
/-! ### what a way is told: answers of calls, values under other names, orders -/
/-- The order in which a drawn region's operations come up: a step (kind, number); two or three that may come up, and what follows each. -/
inductive Tr where
  | e
  | s (k i : Nat) (r : Tr)
  | two (i : Nat) (a : Tr) (j : Nat) (b : Tr)
  | three (i : Nat) (a : Tr) (j : Nat) (b : Tr) (k : Nat) (c : Tr)
def Tr.depth : Tr → Nat
  | .e => 0
  | .s _ _ r => r.depth + 1
  | .two _ a _ b => max a.depth b.depth + 1
  | .three _ a _ b _ c => max a.depth (max b.depth c.depth) + 1
inductive Ev where
  /-- The value that goes to temporary d is x, and so x'. -/
  | cast (d : Tmp) (x x' : Value)
  /-- A call's answer. -/
  | call (f : FuncId) (args : List Value) (x : Value)
  /-- The answer of a call that is handed own blocks, or makes some: the blocks ahead of it, what it turns and makes, its answer. -/
  | callp (f : FuncId) (args : List FV) (hp : Hp) (ups : List (Nat × Ent)) (x : FV)
  /-- What an operation that only reads yields. -/
  | orc (d : Tmp) (op : Op) (x : Value)
  /-- The order in which a region that draws its order is gone through: its table, what waits for what, the cells that are loaded, what comes last; the steps. -/
  | sched (T : Bool × List (List Nat × List Nat)) (B : List Nat) (L : List (Nat × Nat)) (ds : List Nat) (tr : Tr)
inductive Ob where
  | val (a b : Value)
  | vals (a b : List Value)
  | op (a b : Op)
  | fvs (a b : List FV)
  | hps (a b : Hp)
def Ob.holds : Ob → Prop
  | .val a b => a = b
  | .vals a b => a = b
  | .op a b => a = b
  | .fvs a b => a = b
  | .hps a b => a = b
def Ev.obs : Ev → List Ob
  | .cast _ x _ => [.val x x]
  | .call _ args _ => [.vals args args]
  | .callp _ args hp _ _ => [.fvs args args, .hps hp hp]
  | .orc _ op _ => [.op op op]
  | .sched .. => []
def obsOf : List Ev → List Ob
  | [] => []
  | e :: r => e.obs ++ obsOf r
theorem obsOf_hold : ∀ (s : List Ev), ∀ o ∈ obsOf s, o.holds
  | [], o, h => by cases h
  | e :: r, o, h => by
    rcases List.mem_append.1 h with h | h
    · cases e <;> simp only [Ev.obs, List.mem_singleton, List.mem_cons, List.not_mem_nil, or_false] at h
      · subst h; exact rfl
      · subst h; exact rfl
      · rcases h with rfl | rfl <;> exact rfl
      · subst h; exact rfl
    · exact obsOf_hold r o h
def Enters (P : Program) (f : FuncId) : Prop := ∀ (args : Array Value) (w : World), (callFunc f args).run P w = .ok (.enter f args) w
def upsB (hp : Hp) (ups : List (Nat × Ent)) : Hp := ups.foldl (fun h q => setE h q.1 q.2) hp
theorem upsB_sub : ∀ (ups : List (Nat × Ent)) (hp : Hp), Sub hp (upsB hp ups)
  | [], hp => Sub.refl _
  | q :: r, hp => (Sub.setE hp q.1 q.2).trans (upsB_sub r _)
theorem upsB_get (i : Nat) : ∀ (ups : List (Nat × Ent)) (hp : Hp), (∀ u ∈ ups, u.1 ≠ i) → getE (upsB hp ups) i = getE hp i
  | [], hp, _ => rfl
  | q :: r, hp, h => (upsB_get i r _ fun u hu => h u (List.mem_cons_of_mem _ hu)).trans (getE_ne _ _ _ _ (h q (List.mem_cons_self ..)))
/-- A call in a world that bears the blocks hp: it returns x, and leaves a world that bears hp'. -/
def PCalls (P : Program) (f : FuncId) (args : List FV) (hp hp' : Hp) (x : FV) (E : World × List Nat) : Prop :=
  ∀ γ w, Loc γ ⟨args, hp⟩ E.1 E.2 w → Calls P f (args.map (FV.den γ)).toArray w fun e w' => ∃ γ', (∀ i, Dom hp i → γ i = γ' i) ∧ e = .returned (x.den γ') ∧ Loc γ' ⟨[x], hp'⟩ E.1 E.2 w'
def constEval : Operand → Value
  | .const v => v
  | _ => undef
def Ev.ok (P : Program) (Ext : World × List Nat) : Ev → Prop
  | .cast _ x x' => x = x'
  | .call f args x => Enters P f ∧ ∀ w, Kept Ext.2 Ext.1 w → Calls P f args.toArray w fun e w' => e = .returned x ∧ Below w.heap.size w w'
  | .callp f args hp ups x => Enters P f ∧ PCalls P f args hp (upsB hp ups) x Ext
  | .orc _ op x => ∀ (o : Oper) (w : World), o.op = op → Kept Ext.2 Ext.1 w → (execOp constEval o).run P w = .ok (.value x) w
  | .sched .. => True
def Valid (P : Program) (Ext : World × List Nat) : List Ev → Prop
  | [] => True
  | e :: r => e.ok P Ext ∧ Valid P Ext r

def pvals : List FV → Option (List Value)
  | [] => some []
  | x :: r => match pval x with
    | some v => match pvals r with
      | some l => some (v :: l)
      | none => none
    | none => none
theorem pvals_den (γ : Nat → Nat × Nat) : ∀ {l : List FV} {l' : List Value}, pvals l = some l' → l.map (FV.den γ) = l'
  | [], _, h => by obtain rfl := Option.some.inj h; rfl
  | x :: r, l', h => by
    unfold pvals at h
    split at h
    · rename_i v hv
      split at h
      · rename_i l hl
        obtain rfl := Option.some.inj h
        rw [List.map_cons, pval_den hv, pvals_den γ hl]
      · cases h
    · cases h
/-- An operation with its operands' values in their places. -/
def constOp (fr : List FV) : Op → Option Op
  | .load t a => match pval (ev fr a) with
    | some v => some (.load t (.const v))
    | none => none
  | .indexAddr t x i => match pval (ev fr x) with
    | some v => match pval (ev fr i) with
      | some u => some (.indexAddr t (.const v) (.const u))
      | none => none
    | none => none
  | .index t x i => match pval (ev fr x) with
    | some v => match pval (ev fr i) with
      | some u => some (.index t (.const v) (.const u))
      | none => none
    | none => none
  | .lookup t x i ok => match pval (ev fr x) with
    | some v => match pval (ev fr i) with
      | some u => some (.lookup t (.const v) (.const u) ok)
      | none => none
    | none => none
  | .binOp b t x y t' => match pval (ev fr x) with
    | some (.agg a) => match pval (ev fr y) with
      | some (.agg c) => some (.binOp b t (.const (.agg a)) (.const (.agg c)) t')
      | _ => none
    | some (.string a) => match pval (ev fr y) with
      | some (.string c) => some (.binOp b t (.const (.string a)) (.const (.string c)) t')
      | _ => none
    | _ => none
  | _ => none
theorem constOp_exec {fr : List FV} {o : Oper} {op : Op} (h : constOp fr o.op = some op) (γ : Nat → Nat × Nat) : execOp (act γ fr).eval o = execOp constEval { o with op := op } := by
  unfold constOp at h
  split at h
  · rename_i t a hop
    split at h
    · rename_i v hv
      obtain rfl := Option.some.inj h
      unfold execOp
      simp only [hop, ev_den, pval_den hv]
      rfl
    · cases h
  · rename_i t x i hop
    split at h
    · rename_i v hv
      split at h
      · rename_i u hu
        obtain rfl := Option.some.inj h
        unfold execOp
        simp only [hop, ev_den, pval_den hv, pval_den hu]
        rfl
      · cases h
    · cases h
  · rename_i t x i hop
    split at h
    · rename_i v hv
      split at h
      · rename_i u hu
        obtain rfl := Option.some.inj h
        unfold execOp
        simp only [hop, ev_den, pval_den hv, pval_den hu]
        rfl
      · cases h
    · cases h
  · rename_i t x i ok hop
    split at h
    · rename_i v hv
      split at h
      · rename_i u hu
        obtain rfl := Option.some.inj h
        unfold execOp
        simp only [hop, ev_den, pval_den hv, pval_den hu]
        rfl
      · cases h
    · cases h
  · rename_i b t x y t' hop
    split at h
    · rename_i a hv
      split at h
      · rename_i c hu
        obtain rfl := Option.some.inj h
        unfold execOp
        simp only [hop, ev_den, pval_den hv, pval_den hu]
        rfl
      · cases h
    · rename_i a hv
      split at h
      · rename_i c hu
        obtain rfl := Option.some.inj h
        unfold execOp
        simp only [hop, ev_den, pval_den hv, pval_den hu]
        rfl
      · cases h
    · cases h
  · cases h

/-! ### one operation -/
/-- What goes to the operation's temporary: the value, or what it is told to be. -/
def finV (st : St) (dst : Option Tmp) (x : FV) (hp : Hp) (evs : List Ev) : Option (St × List Ev × List Ob) :=
  match evs with
  | .cast d y y' :: r => if dst = some d then match pval x with
      | some z => some ((St.mk st.fr hp).put dst (pv y'), r, [.val z y])
      | none => none
    else some ((St.mk st.fr hp).put dst x, evs, [])
  | _ => some ((St.mk st.fr hp).put dst x, evs, [])
/-- An oracle's answer in the place of an operation's value. -/
def orcV (st : St) (o : Oper) (evs : List Ev) : Option (St × List Ev × List Ob) :=
  match evs with
  | .orc d op x :: r => if o.dst = some d then match constOp st.fr o.op with
      | some op' => some (st.put o.dst (pv x), r, [.op op' op])
      | none => none
    else none
  | _ => none
def callV (P : Program) (st : St) (o : Oper) (c : Call) (g : Operand) (evs : List Ev) : Option (St × List Ev × List Ob) :=
  match pval (ev st.fr g) with
  | some (.func (.func f) first cap) => match pvals (c.args.toList.map (ev st.fr)) with
    | some vs => match evs with
      | .call f' args x :: r => if f = f' then some (st.put o.dst (pv x), r, [.vals (first.toList ++ vs ++ cap.toList) args]) else none
      | _ => none
    | none => none
  | _ => none
def pvF : PV → FV
  | .v x => pv x
  | .p i off => .av (.one (.p i off))
theorem pvF_den (γ : Nat → Nat × Nat) (x : PV) : (pvF x).den γ = x.den γ := by cases x <;> rfl
theorem pvF_sc {S : Nat → Prop} {x : PV} (h : x.sc S) : (pvF x).sc S := by cases x <;> exact h
/-- A function value, in its parts. -/
def fnOf : FV → Option (FuncId × List FV × List FV)
  | .av (.one (.v (.func (.func f) first cap))) => some (f, first.toList.map pv, cap.toList.map pv)
  | .av (.one (.fn (.func f) a b)) => some (f, a.map pvF, b.map pvF)
  | _ => none
theorem fnOf_den {x : FV} {f : FuncId} {a b : List FV} (h : fnOf x = some (f, a, b)) (γ : Nat → Nat × Nat) : x.den γ = .func (.func f) (a.map (FV.den γ)).toArray (b.map (FV.den γ)).toArray := by
  unfold fnOf at h
  split at h
  · simp only [Option.some.injEq, Prod.mk.injEq] at h
    obtain ⟨rfl, rfl, rfl⟩ := h
    simp only [List.map_map]
    rw [show (FV.den γ ∘ pv) = id from rfl]
    simp [FV.den, AV.den, C.den]
  · simp only [Option.some.injEq, Prod.mk.injEq] at h
    obtain ⟨rfl, rfl, rfl⟩ := h
    simp only [List.map_map]
    rw [show (FV.den γ ∘ pvF) = PV.den γ from funext (pvF_den γ)]
    rfl
  · cases h
theorem fnOf_sc {x : FV} {f : FuncId} {a b : List FV} {S : Nat → Prop} (h : fnOf x = some (f, a, b)) (hx : x.sc S) : (∀ y ∈ a, FV.sc S y) ∧ ∀ y ∈ b, FV.sc S y := by
  unfold fnOf at h
  split at h
  · simp only [Option.some.injEq, Prod.mk.injEq] at h
    obtain ⟨rfl, rfl, rfl⟩ := h
    constructor <;> · intro y hy; obtain ⟨z, _, rfl⟩ := List.mem_map.1 hy; exact trivial
  · simp only [Option.some.injEq, Prod.mk.injEq] at h
    obtain ⟨rfl, rfl, rfl⟩ := h
    constructor
    · intro y hy; obtain ⟨z, hz, rfl⟩ := List.mem_map.1 hy; exact pvF_sc (hx.1 z hz)
    · intro y hy; obtain ⟨z, hz, rfl⟩ := List.mem_map.1 hy; exact pvF_sc (hx.2 z hz)
  · cases h
def isP : List Ev → Bool
  | .callp .. :: _ => true
  | _ => false
def callP (st : St) (o : Oper) (c : Call) (g : Operand) (evs : List Ev) : Option (St × List Ev × List Ob) := match evs with
  | .callp f' args hp ups x :: r => match fnOf (ev st.fr g) with
    | some (f, first, cap) => if f = f' then some ((St.mk st.fr (upsB st.hp ups)).put o.dst x, r, [.fvs (first ++ c.args.toList.map (ev st.fr) ++ cap) args, .hps st.hp hp]) else none
    | none => none
  | _ => none
/-- A load out of a block of the call's own. -/
def stepL (P : Program) (st : St) (o : Oper) : Option FV := match o.op with
  | .load t a => match ev st.fr a with
    | .av (.one (.p i off)) => match getB st.hp i with
      | some b => match loadC P t b.cs off with
        | some a => some (.av a)
        | none => none
      | none => none
    | _ => none
  | _ => none
def isE : Op → Bool
  | .box .. => true
  | .alloc .. => true
  | .store .. => true
  | .buildSlice .. => true
  | _ => false
/-- Is the operation's answer an oracle's? -/
def isOrc (dst : Option Tmp) : List Ev → Bool
  | .orc d _ _ :: _ => dst == some d
  | _ => false
def stepOp (P : Program) (st : St) (o : Oper) (evs : List Ev) : Option (St × List Ev × List Ob) :=
  match o.op with
  | .call ⟨.value g, args, ts⟩ => if isP evs = true then callP st o ⟨.value g, args, ts⟩ g evs else callV P st o ⟨.value g, args, ts⟩ g evs
  | .load _ _ => match stepL P st o with
    | some x => finV st o.dst x st.hp evs
    | none => match stepLR P st o with
      | some x => finV st o.dst x st.hp evs
      | none => orcV st o evs
  | .call ⟨.builtin .append, _, _⟩ => match stepA P st o with
    | some (x, hp) => finV st o.dst x hp evs
    | none => none
  | op => if isE op then match stepE P st o with
      | some (x, hp) => finV st o.dst x hp evs
      | none => none
    else if isOrc o.dst evs then orcV st o evs
    else match stepY P st.fr o with
      | some x => finV st o.dst x st.hp evs
      | none => none
section
variable {P : Program} {γ : Nat → Nat × Nat} {st st' : St} {o : Oper} {evs evs' : List Ev} {obs : List Ob} {w0 w : World} {bs : List Nat} {x : FV} {hp : Hp}
theorem act_agree (hs : ∀ y ∈ st.fr, FV.sc (Dom st.hp) y) {γ' : Nat → Nat × Nat} (h : ∀ i, Dom st.hp i → γ i = γ' i) : act γ st.fr = act γ' st.fr := by
  unfold act
  rw [List.map_congr_left fun y hy => FV.agree h (hs y hy)]
/-- What a step leaves. -/
def Leaves (P : Program) (γ : Nat → Nat × Nat) (st : St) (o : Oper) (w0 : World) (bs : List Nat) (w : World) (st' : St) : Prop :=
  Sub st.hp st'.hp ∧ ∀ (K : Act → World → Prop) (Q : Exit → Act → World → Prop), (∀ γ' w', (∀ i, Dom st.hp i → γ i = γ' i) → Loc γ' st' w0 bs w' → K (act γ' st'.fr) w') → o.wp P (act γ st.fr) w K Q
theorem finV_leaves (hl : Loc γ st w0 bs w) (hr : Runs P γ st o w0 bs w x hp) (h : finV st o.dst x hp evs = some (st', evs', obs)) (hv : Valid P (w0, bs) evs) (ho : ∀ q ∈ obs, q.holds) :
    Valid P (w0, bs) evs' ∧ Leaves P γ st o w0 bs w st' := by
  obtain ⟨γ', w', hag, hl', hx, hle, hK⟩ := hr
  have key : ∀ y : FV, y.sc (Dom hp) → y.den γ' = x.den γ' → Leaves P γ st o w0 bs w ((St.mk st.fr hp).put o.dst y) := by
    intro y hy hd
    refine ⟨by rw [put_hp]; exact hle, fun K Q hk => hK K Q ?_⟩
    have := hk γ' w' hag (hl'.put o.dst hy)
    rw [act_put, hd] at this
    rw [act_agree hl.scf hag]
    exact this
  unfold finV at h
  split at h
  · rename_i d y y' r
    split at h
    · split at h
      · rename_i z hz
        simp only [Option.some.injEq, Prod.mk.injEq] at h
        obtain ⟨rfl, rfl, rfl⟩ := h
        have h1 : z = y := ho _ (List.mem_singleton.2 rfl)
        have h2 : y = y' := hv.1
        refine ⟨hv.2, key _ trivial ?_⟩
        rw [pval_den hz, h1, h2]
        rfl
      · cases h
    · simp only [Option.some.injEq, Prod.mk.injEq] at h
      obtain ⟨rfl, rfl, rfl⟩ := h
      exact ⟨hv, key x hx rfl⟩
  · simp only [Option.some.injEq, Prod.mk.injEq] at h
    obtain ⟨rfl, rfl, rfl⟩ := h
    exact ⟨hv, key x hx rfl⟩
theorem orcV_run (h : orcV st o evs = some (st', evs', obs)) (hv : Valid P (w0, bs) evs) (ho : ∀ q ∈ obs, q.holds) :
    ∃ x, st' = st.put o.dst (pv x) ∧ Valid P (w0, bs) evs' ∧ ∀ w, Kept bs w0 w → (execOp (act γ st.fr).eval o).run P w = .ok (.value x) w := by
  unfold orcV at h
  split at h
  · rename_i d op x r
    split at h
    · split at h
      · rename_i op' hop
        simp only [Option.some.injEq, Prod.mk.injEq] at h
        obtain ⟨rfl, rfl, rfl⟩ := h
        have h1 : op' = op := ho _ (List.mem_singleton.2 rfl)
        refine ⟨x, rfl, hv.2, fun w hw => ?_⟩
        rw [constOp_exec hop γ]
        exact hv.1 _ w h1 hw
      · cases h
    · cases h
  · cases h
theorem orcV_leaves (hl : Loc γ st w0 bs w) (h : orcV st o evs = some (st', evs', obs)) (hv : Valid P (w0, bs) evs) (ho : ∀ q ∈ obs, q.holds) :
    Valid P (w0, bs) evs' ∧ Leaves P γ st o w0 bs w st' := by
  obtain ⟨x, rfl, hv', hr⟩ := orcV_run (P := P) (γ := γ) h hv ho
  refine ⟨hv', by rw [put_hp]; exact Sub.refl _, fun K Q hk => ?_⟩
  have := hk γ w (fun _ _ => rfl) (hl.put o.dst (x := pv x) trivial)
  rw [act_put] at this
  unfold Oper.wp
  rw [hr w hl.kept]
  exact this
theorem callV_leaves {args : Array Operand} {ts : Array TypeId} {g : Operand} (hop : o.op = .call ⟨.value g, args, ts⟩) (hl : Loc γ st w0 bs w) (h : callV P st o ⟨.value g, args, ts⟩ g evs = some (st', evs', obs)) (hv : Valid P (w0, bs) evs) (ho : ∀ q ∈ obs, q.holds) :
    Valid P (w0, bs) evs' ∧ Leaves P γ st o w0 bs w st' := by
  unfold callV at h
  split at h
  · rename_i f first cap hg
    split at h
    · rename_i vs hvs
      split at h
      · rename_i f' as x r
        split at h
        · rename_i hf
          subst hf
          simp only [Option.some.injEq, Prod.mk.injEq] at h
          obtain ⟨rfl, rfl, rfl⟩ := h
          have h1 : first.toList ++ vs ++ cap.toList = as := ho _ (List.mem_singleton.2 rfl)
          obtain ⟨⟨hen, hc⟩, hv'⟩ := hv
          have ea : first ++ args.map (act γ st.fr).eval ++ cap = as.toArray := by
            apply Array.ext'
            have e0 : args.toList.map (act γ st.fr).eval = (args.toList.map (ev st.fr)).map (FV.den γ) := by
              rw [List.map_map]
              exact List.map_congr_left fun z _ => ev_den γ _ z
            rw [Array.toList_append, Array.toList_append, Array.toList_map, ← h1, ← pvals_den γ hvs, e0]
          have eg : (act γ st.fr).eval g = .func (.func f) first cap := by rw [ev_den]; exact pval_den hg γ
          have hrun : (execOp (act γ st.fr).eval o).run P w = .ok (.enter f as.toArray) w := by
            unfold execOp
            simp only [hop, resolve, eg, Deferred.ofValue, Sem.run_bind, Sem.run_pure, Result.andThen_ok, invoke]
            rw [ea]
            exact hen _ _
          refine ⟨hv', by rw [put_hp]; exact Sub.refl _, fun K Q hk => ?_⟩
          unfold Oper.wp
          rw [hrun, Oper.upon_enter]
          refine (hc w hl.kept).mono fun e w' hh => ?_
          obtain ⟨rfl, hb⟩ := hh
          have := hk γ w' (fun _ _ => rfl) ((hl.call hb).put o.dst (x := pv x) trivial)
          rw [act_put] at this
          exact this
        · cases h
      · cases h
    · cases h
  · cases h
theorem callP_leaves {args : Array Operand} {ts : Array TypeId} {g : Operand} (hop : o.op = .call ⟨.value g, args, ts⟩) (hl : Loc γ st w0 bs w) (h : callP st o ⟨.value g, args, ts⟩ g evs = some (st', evs', obs)) (hv : Valid P (w0, bs) evs) (ho : ∀ q ∈ obs, q.holds) :
    Valid P (w0, bs) evs' ∧ Leaves P γ st o w0 bs w st' := by
  unfold callP at h
  split at h
  · rename_i f' as hp ups x r
    split at h
    · rename_i f first cap hg
      split at h
      · rename_i hf
        subst hf
        simp only [Option.some.injEq, Prod.mk.injEq] at h
        obtain ⟨rfl, rfl, rfl⟩ := h
        have h1 : first ++ args.toList.map (ev st.fr) ++ cap = as := ho (.fvs _ _) (by simp)
        have h2 : st.hp = hp := ho (.hps _ _) (by simp)
        subst h2
        obtain ⟨⟨hen, hc⟩, hv'⟩ := hv
        have ea : (first.map (FV.den γ)).toArray ++ args.map (act γ st.fr).eval ++ (cap.map (FV.den γ)).toArray = (as.map (FV.den γ)).toArray := by
          apply Array.ext'
          have e0 : args.toList.map (act γ st.fr).eval = (args.toList.map (ev st.fr)).map (FV.den γ) := by
            rw [List.map_map]
            exact List.map_congr_left fun z _ => ev_den γ _ z
          rw [Array.toList_append, Array.toList_append, Array.toList_map, e0, ← h1]
          simp
        have eg : (act γ st.fr).eval g = .func (.func f) (first.map (FV.den γ)).toArray (cap.map (FV.den γ)).toArray := by rw [ev_den]; exact fnOf_den hg γ
        have hrun : (execOp (act γ st.fr).eval o).run P w = .ok (.enter f (as.map (FV.den γ)).toArray) w := by
          unfold execOp
          simp only [hop, resolve, eg, Deferred.ofValue, Sem.run_bind, Sem.run_pure, Result.andThen_ok, invoke]
          rw [ea]
          exact hen _ _
        have hsub := upsB_sub ups st.hp
        obtain ⟨s1, s2⟩ := fnOf_sc hg (ev_sc hl.scf g)
        have hl0 : Loc γ ⟨as, st.hp⟩ w0 bs w := ⟨hl.kept, hl.blk, hl.own, hl.inj, fun y hy => by
          rw [← h1] at hy
          rcases List.mem_append.1 hy with hy | hy
          · rcases List.mem_append.1 hy with hy | hy
            · exact s1 y hy
            · obtain ⟨z, _, rfl⟩ := List.mem_map.1 hy
              exact ev_sc hl.scf z
          · exact s2 y hy, hl.sch, hl.row, hl.scr⟩
        refine ⟨hv', by rw [put_hp]; exact hsub, fun K Q hk => ?_⟩
        unfold Oper.wp
        rw [hrun, Oper.upon_enter]
        refine (hc γ w hl0).mono fun e w' hh => ?_
        obtain ⟨γ', hag, rfl, hl'⟩ := hh
        have hl2 : Loc γ' ⟨st.fr, upsB st.hp ups⟩ w0 bs w' := ⟨hl'.kept, hl'.blk, hl'.own, hl'.inj, fun y hy => FV.sc_mono hsub (hl.scf y hy), hl'.sch, hl'.row, hl'.scr⟩
        have := hk γ' w' hag (hl2.put o.dst (x := x) (hl'.scf x (List.mem_singleton.2 rfl)))
        rw [act_put] at this
        rw [act_agree hl.scf hag]
        exact this
      · cases h
    · cases h
  · cases h
theorem stepL_run (hl : Loc γ st w0 bs w) (h : stepL P st o = some x) : (execOp (act γ st.fr).eval o).run P w = .ok (.value (x.den γ)) w ∧ x.sc (Dom st.hp) := by
  unfold stepL at h
  split at h
  · rename_i t a hop
    split at h
    · rename_i i off ha
      split at h
      · rename_i b hb
        split at h
        · rename_i y hy
          obtain rfl := Option.some.inj h
          have ea : (act γ st.fr).eval a = .pointer (some ⟨(γ i).1, off, none⟩) := by rw [ev_den, ha]; rfl
          have e1 := loadC_run (γ := γ) (g := (γ i).1) (w := w) hy (fun j c hc _ _ => hl.cell hb hc)
          refine ⟨?_, loadC_sc (hl.sch i b hb) hy⟩
          unfold execOp
          simp only [hop, ea, Sem.run_bind, e1, Result.andThen_ok]
          rfl
        · cases h
      · cases h
    · cases h
  · cases h
theorem stepOp_leaves (hl : Loc γ st w0 bs w) (h : stepOp P st o evs = some (st', evs', obs)) (hv : Valid P (w0, bs) evs) (ho : ∀ q ∈ obs, q.holds) :
    Valid P (w0, bs) evs' ∧ Leaves P γ st o w0 bs w st' := by
  unfold stepOp at h
  split at h
  · rename_i g args ts hop
    split at h
    · exact callP_leaves hop hl h hv ho
    · exact callV_leaves hop hl h hv ho
  · split at h
    · rename_i x hx
      obtain ⟨h1, h2⟩ := stepL_run hl hx
      exact finV_leaves hl (Runs.value hl h2 h1) h hv ho
    · split at h
      · rename_i x hx
        obtain ⟨h1, h2⟩ := stepLR_run hl hx
        exact finV_leaves hl (Runs.value hl h2 h1) h hv ho
      · exact orcV_leaves hl h hv ho
  · split at h
    · rename_i x hp hx
      exact finV_leaves hl (stepA_runs hl hx) h hv ho
    · cases h
  · split at h
    · split at h
      · rename_i x hp hx
        exact finV_leaves hl (stepE_runs hl hx) h hv ho
      · cases h
    · split at h
      · exact orcV_leaves hl h hv ho
      · split at h
        · rename_i x hx
          exact finV_leaves hl (Runs.value hl (stepY_sc hl.scf hx) (stepY_run hx γ w)) h hv ho
        · cases h
end

section
variable {P : Program} {Ext : World × List Nat} {st st' : St} {o : Oper} {evs evs' : List Ev} {obs : List Ob} {x : FV} {hp : Hp}
theorem finV_tail (h : finV st o.dst x hp evs = some (st', evs', obs)) (hv : Valid P Ext evs) : Valid P Ext evs' ∧ st'.hp = hp := by
  unfold finV at h
  split at h
  · split at h
    · split at h
      · simp only [Option.some.injEq, Prod.mk.injEq] at h
        obtain ⟨rfl, rfl, rfl⟩ := h
        exact ⟨hv.2, put_hp _ _ _⟩
      · cases h
    · simp only [Option.some.injEq, Prod.mk.injEq] at h
      obtain ⟨rfl, rfl, rfl⟩ := h
      exact ⟨hv, put_hp _ _ _⟩
  · simp only [Option.some.injEq, Prod.mk.injEq] at h
    obtain ⟨rfl, rfl, rfl⟩ := h
    exact ⟨hv, put_hp _ _ _⟩
theorem orcV_tail (h : orcV st o evs = some (st', evs', obs)) (hv : Valid P Ext evs) : Valid P Ext evs' ∧ st'.hp = st.hp := by
  unfold orcV at h
  split at h
  · split at h
    · split at h
      · simp only [Option.some.injEq, Prod.mk.injEq] at h
        obtain ⟨rfl, rfl, rfl⟩ := h
        exact ⟨hv.2, put_hp _ _ _⟩
      · cases h
    · cases h
  · cases h
theorem callV_tail {c : Call} {g : Operand} (h : callV P st o c g evs = some (st', evs', obs)) (hv : Valid P Ext evs) : Valid P Ext evs' ∧ st'.hp = st.hp := by
  unfold callV at h
  split at h
  · split at h
    · split at h
      · split at h
        · simp only [Option.some.injEq, Prod.mk.injEq] at h
          obtain ⟨rfl, rfl, rfl⟩ := h
          exact ⟨hv.2, put_hp _ _ _⟩
        · cases h
      · cases h
    · cases h
  · cases h
theorem callP_tail {c : Call} {g : Operand} (h : callP st o c g evs = some (st', evs', obs)) (hv : Valid P Ext evs) : Valid P Ext evs' ∧ Sub st.hp st'.hp := by
  unfold callP at h
  split at h
  · split at h
    · split at h
      · simp only [Option.some.injEq, Prod.mk.injEq] at h
        obtain ⟨rfl, rfl, rfl⟩ := h
        exact ⟨hv.2, by rw [put_hp]; exact upsB_sub _ _⟩
      · cases h
    · cases h
  · cases h
/-- The blocks behind an operation that makes or writes memory: those that were there, and perhaps one more; a store's block apart they hold what they held. -/
theorem stepE_len (h : stepE P st o = some (x, hp)) : Sub st.hp hp := by
  unfold stepE at h
  split at h
  · split at h
    · split at h
      · simp only [Option.some.injEq, Prod.mk.injEq] at h
        obtain ⟨rfl, rfl⟩ := h
        exact Sub.set _ _ _
      · cases h
    · cases h
  · split at h
    · split at h
      · split at h
        · simp only [Option.some.injEq, Prod.mk.injEq] at h
          obtain ⟨rfl, rfl⟩ := h
          exact Sub.set _ _ _
        · cases h
      · cases h
    · cases h
  · split at h
    · split at h
      · split at h
        · split at h
          · split at h
            · simp only [Option.some.injEq, Prod.mk.injEq] at h
              obtain ⟨rfl, rfl⟩ := h
              exact Sub.set _ _ _
            · cases h
          · cases h
        · cases h
      · cases h
    · cases h
  · split at h
    · split at h
      · split at h
        · cases h
        · split at h
          · split at h
            · split at h
              · split at h
                · cases h
                · split at h
                  · simp only [Option.some.injEq, Prod.mk.injEq] at h
                    obtain ⟨rfl, rfl⟩ := h
                    exact Sub.set _ _ _
                  · cases h
              · cases h
            · cases h
          · cases h
      · cases h
    · cases h
  · cases h
theorem stepOp_tail (h : stepOp P st o evs = some (st', evs', obs)) (hv : Valid P Ext evs) : Valid P Ext evs' ∧ Sub st.hp st'.hp := by
  unfold stepOp at h
  split at h
  · split at h
    · exact callP_tail h hv
    · obtain ⟨h1, h2⟩ := callV_tail h hv
      exact ⟨h1, by rw [h2]; exact Sub.refl _⟩
  · split at h
    · obtain ⟨h1, h2⟩ := finV_tail h hv
      exact ⟨h1, by rw [h2]; exact Sub.refl _⟩
    · split at h
      · obtain ⟨h1, h2⟩ := finV_tail h hv
        exact ⟨h1, by rw [h2]; exact Sub.refl _⟩
      · obtain ⟨h1, h2⟩ := orcV_tail h hv
        exact ⟨h1, by rw [h2]; exact Sub.refl _⟩
  · split at h
    · rename_i x hp hx
      obtain ⟨h1, h2⟩ := finV_tail h hv
      exact ⟨h1, by rw [h2]; exact (stepA_sub hx).1⟩
    · cases h
  · split at h
    · split at h
      · rename_i x hp hx
        obtain ⟨h1, h2⟩ := finV_tail h hv
        exact ⟨h1, by rw [h2]; exact stepE_len hx⟩
      · cases h
    · split at h
      · obtain ⟨h1, h2⟩ := orcV_tail h hv
        exact ⟨h1, by rw [h2]; exact Sub.refl _⟩
      · split at h
        · obtain ⟨h1, h2⟩ := finV_tail h hv
          exact ⟨h1, by rw [h2]; exact Sub.refl _⟩
        · cases h
end
/-! ### operations in line -/
/-- Is the operation wanted? (none: it can't be told.) -/
def wantedB (ops : Array Oper) (fr : List FV) (o : Oper) : Option Bool := match o.guard with
  | none => some true
  | some (j, want) => match (ops[j]?).bind (·.dst) with
    | some t => match fr[t]? with
      | some (.av (.one (.v (.bool b)))) => some (b == want)
      | some (.av (.one (.v (.tuple _)))) => some false
      | _ => none
    | none => none
theorem wantedB_eq {ops : Array Oper} {fr : List FV} {o : Oper} {b : Bool} (h : wantedB ops fr o = some b) (γ : Nat → Nat × Nat) : Region.wanted o (yielded ops (act γ fr).tmps) = b := by
  unfold wantedB at h
  unfold Region.wanted
  split at h
  · rename_i hg
    obtain rfl := Option.some.inj h
    rw [hg]
  · rename_i j want hg
    rw [hg]
    split at h
    · rename_i t ht
      split at h
      · rename_i b' hb
        obtain rfl := Option.some.inj h
        have : yielded ops (act γ fr).tmps j = some b' := by
          unfold yielded
          rw [ht]
          simp [act, hb, FV.den, AV.den, C.den]
        simp only [this]
        cases b' <;> cases want <;> rfl
      · rename_i vs hb
        obtain rfl := Option.some.inj h
        have : yielded ops (act γ fr).tmps j = none := by
          unfold yielded
          rw [ht]
          simp [act, hb, FV.den, AV.den, C.den]
        simp only [this]
        rfl
      · cases h
    · cases h
def seqOps (P : Program) (ops : Array Oper) : List Nat → St → List Ev → Option (St × List Ev × List Ob)
  | [], st, evs => some (st, evs, [])
  | i :: r, st, evs => match ops[i]? with
    | none => none
    | some o => match wantedB ops st.fr o with
      | none => none
      | some false => seqOps P ops r (st.put o.dst (pv undef)) evs
      | some true => match stepOp P st o evs with
        | none => none
        | some (st1, evs1, ob1) => match seqOps P ops r st1 evs1 with
          | none => none
          | some (st2, evs2, ob2) => some (st2, evs2, ob1 ++ ob2)
theorem seqOps_tail {P : Program} {Ext : World × List Nat} {ops : Array Oper} : ∀ (l : List Nat) (st : St) (evs : List Ev) {st' : St} {evs' : List Ev} {obs : List Ob}, seqOps P ops l st evs = some (st', evs', obs) → Valid P Ext evs → Valid P Ext evs' ∧ Sub st.hp st'.hp
  | [], st, evs, st', evs', obs, h, hv => by
    simp only [seqOps, Option.some.injEq, Prod.mk.injEq] at h
    obtain ⟨rfl, rfl, rfl⟩ := h
    exact ⟨hv, Sub.refl _⟩
  | i :: r, st, evs, st', evs', obs, h, hv => by
    unfold seqOps at h
    split at h
    · cases h
    · split at h
      · cases h
      · obtain ⟨h1, h2⟩ := seqOps_tail r _ evs h hv
        rw [put_hp] at h2
        exact ⟨h1, h2⟩
      · split at h
        · cases h
        · rename_i st1 evs1 ob1 hs
          split at h
          · cases h
          · rename_i st2 evs2 ob2 hr
            simp only [Option.some.injEq, Prod.mk.injEq] at h
            obtain ⟨rfl, rfl, rfl⟩ := h
            obtain ⟨h1, h2⟩ := stepOp_tail hs hv
            obtain ⟨h3, h4⟩ := seqOps_tail r _ evs1 hr h1
            exact ⟨h3, h2.trans h4⟩
theorem seqOps_wp {P : Program} {ops : Array Oper} {w0 : World} {bs : List Nat} {Q : Exit → Act → World → Prop} : ∀ (l : List Nat) (st : St) (evs : List Ev) {st' : St} {evs' : List Ev} {obs : List Ob} {γ : Nat → Nat × Nat} {w : World}, seqOps P ops l st evs = some (st', evs', obs) →
    Loc γ st w0 bs w → Valid P (w0, bs) evs → (∀ q ∈ obs, q.holds) →
    Valid P (w0, bs) evs' ∧ Sub st.hp st'.hp ∧ ((∀ γ' w', (∀ i, Dom st.hp i → γ i = γ' i) → Loc γ' st' w0 bs w' → Q .normal (act γ' st'.fr) w') → wpOps P ops Q l (act γ st.fr) w)
  | [], st, evs, st', evs', obs, γ, w, h, hl, hv, ho => by
    simp only [seqOps, Option.some.injEq, Prod.mk.injEq] at h
    obtain ⟨rfl, rfl, rfl⟩ := h
    exact ⟨hv, Sub.refl _, fun hq => hq γ w (fun _ _ => rfl) hl⟩
  | i :: r, st, evs, st', evs', obs, γ, w, h, hl, hv, ho => by
    unfold seqOps at h
    split at h
    · cases h
    · rename_i o hi
      split at h
      · cases h
      · rename_i hw
        have hw' := wantedB_eq hw γ
        have hl' := hl.put o.dst (x := pv undef) trivial
        obtain ⟨h1, h2, h3⟩ := seqOps_wp (Q := Q) r _ evs h hl' hv ho
        rw [put_hp] at h2 h3
        refine ⟨h1, h2, fun hq => ?_⟩
        have h4 := h3 hq
        rw [act_put] at h4
        simp only [wpOps, hi, hw']
        exact h4
      · rename_i hw
        have hw' := wantedB_eq hw γ
        split at h
        · cases h
        · rename_i st1 evs1 ob1 hs
          split at h
          · cases h
          · rename_i st2 evs2 ob2 hr
            simp only [Option.some.injEq, Prod.mk.injEq] at h
            obtain ⟨rfl, rfl, rfl⟩ := h
            obtain ⟨hv1, hle, hK⟩ := stepOp_leaves hl hs hv (fun q hq => ho q (List.mem_append_left _ hq))
            have ho2 : ∀ q ∈ ob2, q.holds := fun q hq => ho q (List.mem_append_right _ hq)
            obtain ⟨hv3, hle3⟩ := seqOps_tail r st1 evs1 hr hv1
            refine ⟨hv3, hle.trans hle3, fun hq => ?_⟩
            simp only [wpOps, hi, hw', if_true]
            refine .inl (hK _ _ fun γ1 w1 hag hl1 => ?_)
            obtain ⟨_, _, h3⟩ := seqOps_wp (Q := Q) r _ evs1 hr hl1 hv1 ho2
            exact h3 fun γ' w' hag' hl' => hq γ' w' (fun i hi => (hag i hi).trans (hag' i (hle i hi))) hl'

/-! ### operations whose order is drawn -/
/-- The operation writes none of the cells of L. -/
def noHit (P : Program) (L : List (Nat × Nat)) (fr : List FV) (o : Oper) (evs : List Ev) : Bool := match o.op with
  | .call _ => match evs with
    | .callp _ _ _ ups _ :: _ => L.all fun q => ups.all fun u => u.1 != q.1
    | _ => true
  | .store t a _ => match ev fr a with
    | .av (.one (.p i off)) => match P.info? t with
      | some inf => L.all fun q => q.1 != i || decide (q.2 < off) || decide (off + inf.size ≤ q.2)
      | none => false
    | _ => false
  | _ => true
section
variable {P : Program} {st st' : St} {o : Oper} {evs evs' : List Ev} {obs : List Ob} {x : FV} {hp : Hp} {L : List (Nat × Nat)} {q : Nat × Nat} {b : Bl} {c : C}
theorem finV_hp (h : finV st o.dst x hp evs = some (st', evs', obs)) : st'.hp = hp := by
  unfold finV at h
  split at h
  · split at h
    · split at h
      · simp only [Option.some.injEq, Prod.mk.injEq] at h
        obtain ⟨rfl, rfl, rfl⟩ := h
        exact put_hp _ _ _
      · cases h
    · simp only [Option.some.injEq, Prod.mk.injEq] at h
      obtain ⟨rfl, rfl, rfl⟩ := h
      exact put_hp _ _ _
  · simp only [Option.some.injEq, Prod.mk.injEq] at h
    obtain ⟨rfl, rfl, rfl⟩ := h
    exact put_hp _ _ _
theorem orcV_hp (h : orcV st o evs = some (st', evs', obs)) : st'.hp = st.hp := by
  unfold orcV at h
  split at h
  · split at h
    · split at h
      · simp only [Option.some.injEq, Prod.mk.injEq] at h
        obtain ⟨rfl, rfl, rfl⟩ := h
        exact put_hp _ _ _
      · cases h
    · cases h
  · cases h
theorem callV_hp {c : Call} {g : Operand} (h : callV P st o c g evs = some (st', evs', obs)) : st'.hp = st.hp := by
  unfold callV at h
  split at h
  · split at h
    · split at h
      · split at h
        · simp only [Option.some.injEq, Prod.mk.injEq] at h
          obtain ⟨rfl, rfl, rfl⟩ := h
          exact put_hp _ _ _
        · cases h
      · cases h
    · cases h
  · cases h
theorem app_cell {hp : Hp} {k : Nat} {b' : Bl} (hk : getE hp k = none) (hb : getB hp q.1 = some b) : getB (setB hp k b') q.1 = some b := by
  rw [getB_ne]
  · exact hb
  · rintro e
    rw [getB_iff, ← e, hk] at hb
    cases hb
theorem stepE_cell (h : stepE P st o = some (x, hp)) (hn : noHit P L st.fr o evs = true) (hq : q ∈ L) (hb : getB st.hp q.1 = some b) (hc : b.cs[q.2]? = some c) : ∃ b', getB hp q.1 = some b' ∧ b'.cs[q.2]? = some c := by
  unfold stepE at h
  split at h
  · split at h
    · split at h
      · rename_i k hk
        simp only [Option.some.injEq, Prod.mk.injEq] at h
        obtain ⟨rfl, rfl⟩ := h
        exact ⟨b, app_cell (newAt_none hk) hb, hc⟩
      · cases h
    · cases h
  · split at h
    · split at h
      · split at h
        · rename_i k hk
          simp only [Option.some.injEq, Prod.mk.injEq] at h
          obtain ⟨rfl, rfl⟩ := h
          exact ⟨b, app_cell (newAt_none hk) hb, hc⟩
        · cases h
      · cases h
    · cases h
  · rename_i t a y hop
    split at h
    · rename_i i off ha
      split at h
      · rename_i b0 hb0
        split at h
        · rename_i l hl
          split at h
          · rename_i inf hi
            split at h
            · rename_i hcnd
              obtain ⟨h1, h2, h3⟩ := hcnd
              simp only [Option.some.injEq, Prod.mk.injEq] at h
              obtain ⟨rfl, rfl⟩ := h
              unfold noHit at hn
              rw [hop] at hn
              simp only [ha, hi] at hn
              have h4 := List.all_eq_true.1 hn q hq
              by_cases e : i = q.1
              · subst e
                obtain rfl : b0 = b := Option.some.inj (hb0.symm.trans hb)
                refine ⟨_, getB_self _ _ _, ?_⟩
                have h5 : q.2 < off ∨ off + inf.size ≤ q.2 := by simpa using h4
                rw [← h1] at h5
                rcases h5 with h5 | h5
                · rw [List.append_assoc, List.getElem?_append_left (by rw [List.length_take]; omega), List.getElem?_take_of_lt h5]
                  exact hc
                · rw [List.getElem?_append_right (by simp; omega), List.getElem?_drop]
                  have : off + l.length + (q.2 - (List.take off b0.cs ++ l).length) = q.2 := by simp; omega
                  rw [this]
                  exact hc
              · exact ⟨b, by rw [getB_ne _ _ _ _ e]; exact hb, hc⟩
            · cases h
          · cases h
        · cases h
      · cases h
    · cases h
  · split at h
    · split at h
      · split at h
        · cases h
        · split at h
          · split at h
            · split at h
              · split at h
                · cases h
                · split at h
                  · rename_i k hk
                    simp only [Option.some.injEq, Prod.mk.injEq] at h
                    obtain ⟨rfl, rfl⟩ := h
                    exact ⟨b, app_cell (newAt_none hk) hb, hc⟩
                  · cases h
              · cases h
            · cases h
          · cases h
      · cases h
    · cases h
  · cases h
theorem stepOp_cell (h : stepOp P st o evs = some (st', evs', obs)) (hn : noHit P L st.fr o evs = true) (hq : q ∈ L) (hb : getB st.hp q.1 = some b) (hc : b.cs[q.2]? = some c) : ∃ b', getB st'.hp q.1 = some b' ∧ b'.cs[q.2]? = some c := by
  unfold stepOp at h
  split at h
  · rename_i g args ts hop
    split at h
    · unfold callP at h
      split at h
      · rename_i f' as hp ups x r
        split at h
        · split at h
          · simp only [Option.some.injEq, Prod.mk.injEq] at h
            obtain ⟨rfl, rfl, rfl⟩ := h
            unfold noHit at hn
            rw [hop] at hn
            simp only at hn
            have h4 := List.all_eq_true.1 hn q hq
            refine ⟨b, ?_, hc⟩
            rw [put_hp, getB_of _ st.hp _ (upsB_get _ _ _ ?_)]
            · exact hb
            · intro u hu
              have := List.all_eq_true.1 h4 u hu
              simpa using this
          · cases h
        · cases h
      · cases h
    · rw [callV_hp h]; exact ⟨b, hb, hc⟩
  · split at h
    · rw [finV_hp h]; exact ⟨b, hb, hc⟩
    · split at h
      · rw [finV_hp h]; exact ⟨b, hb, hc⟩
      · rw [orcV_hp h]; exact ⟨b, hb, hc⟩
  · split at h
    · rename_i x hp hx
      rw [finV_hp h]; exact ⟨b, (stepA_sub hx).2 _ _ hb, hc⟩
    · cases h
  · split at h
    · split at h
      · rename_i x hp hx
        rw [finV_hp h]
        exact stepE_cell hx hn hq hb hc
      · cases h
    · split at h
      · rw [orcV_hp h]; exact ⟨b, hb, hc⟩
      · split at h
        · rw [finV_hp h]; exact ⟨b, hb, hc⟩
        · cases h
end
/-- A load that is taken first: its cells are of L. -/
def inL (P : Program) (L : List (Nat × Nat)) (fr : List FV) (o : Oper) : Bool := match o.op with
  | .load t a => match ev fr a with
    | .av (.one (.p i off)) => (List.range (loadSpan P t)).all fun j => L.contains (i, off + j)
    | _ => false
  | _ => false
def takeV (P : Program) (L : List (Nat × Nat)) (st : St) (o : Oper) (evs : List Ev) : Option (St × List Ev × List Ob) :=
  if inL P L st.fr o then match stepL P st o with
    | some x => finV st o.dst x st.hp evs
    | none => none
  else orcV st o evs
def schedStep (P : Program) (ops : Array Oper) (T : Bool × List (List Nat × List Nat)) (B : List Nat) (L : List (Nat × Nat)) (ds : List Nat) (k i : Nat) (o : Oper) (mask : List Bool) (good : Bool) (st : St) (evs : List Ev) : Option (St × List Ev × List Ob) :=
  match wantedB ops st.fr o with
  | none => none
  | some false => if k = 0 ∧ anyT T mask (mask.set i true) i = true then some (st.put o.dst (pv undef), evs, []) else none
  | some true => match k with
    | 0 => if anyT T mask (mask.set i true) i = true then match stepY P st.fr o with
        | some x => finV st o.dst x st.hp evs
        | none => none
      else none
    | 1 => if good = true ∧ takeW T B ds mask (mask.set i true) i = true then takeV P L st o evs else none
    | 2 => if good = true ∧ (readyT T.2 mask == [i]) = true ∧ ds.contains i = false ∧ noHit P L st.fr o evs = true then stepOp P st o evs else none
    | 3 => if (readyT T.2 mask == [i]) = true ∧ ds.contains i = true then stepOp P st o evs else none
    | _ => none
abbrev Res := St × List Ev × List Ob
def oneStep (P : Program) (ops : Array Oper) (L : List (Nat × Nat)) (i : Nat) (st : St) (evs : List Ev) : Option Res := match ops[i]? with
  | none => none
  | some o => match wantedB ops st.fr o with
    | some true => if noHit P L st.fr o evs = true then stepOp P st o evs else none
    | _ => none
def cons1 (ob : List Ob) : Option (Res × List (Res × Res)) → Option (Res × List (Res × Res))
  | some ((st, evs, ob2), q) => some ((st, evs, ob ++ ob2), q)
  | none => none
def runSched (P : Program) (ops : Array Oper) (T : Bool × List (List Nat × List Nat)) (B : List Nat) (L : List (Nat × Nat)) (ds : List Nat) : Tr → List Bool → Bool → St → List Ev → Option (Res × List (Res × Res))
  | .e, mask, _, st, evs => if (readyT T.2 mask == []) = true then some ((st, evs, []), []) else none
  | .s k i r, mask, good, st, evs => match ops[i]? with
    | none => none
    | some o => match schedStep P ops T B L ds k i o mask good st evs with
      | none => none
      | some (st1, evs1, ob1) => cons1 ob1 (runSched P ops T B L ds r (mask.set i true) (good && k != 3) st1 evs1)
  | .two i a j b, mask, good, st, evs => if good = true ∧ (readyT T.2 mask == [i, j]) = true ∧ ds.contains i = false ∧ ds.contains j = false then
      match oneStep P ops L i st evs with
      | none => none
      | some (st1, evs1, ob1) => match oneStep P ops L j st evs with
        | none => none
        | some (st2, evs2, ob2) => match cons1 ob1 (runSched P ops T B L ds a (mask.set i true) true st1 evs1) with
          | none => none
          | some (ra, ea) => match cons1 ob2 (runSched P ops T B L ds b (mask.set j true) true st2 evs2) with
            | none => none
            | some (rb, eb) => some (ra, (ra, rb) :: (ea ++ eb))
    else none
  | .three i a j b k c, mask, good, st, evs => if good = true ∧ (readyT T.2 mask == [i, j, k]) = true ∧ ds.contains i = false ∧ ds.contains j = false ∧ ds.contains k = false then
      match oneStep P ops L i st evs with
      | none => none
      | some (st1, evs1, ob1) => match oneStep P ops L j st evs with
        | none => none
        | some (st2, evs2, ob2) => match oneStep P ops L k st evs with
          | none => none
          | some (st3, evs3, ob3) => match cons1 ob1 (runSched P ops T B L ds a (mask.set i true) true st1 evs1) with
            | none => none
            | some (ra, ea) => match cons1 ob2 (runSched P ops T B L ds b (mask.set j true) true st2 evs2) with
              | none => none
              | some (rb, eb) => match cons1 ob3 (runSched P ops T B L ds c (mask.set k true) true st3 evs3) with
                | none => none
                | some (rc, ec) => some (ra, (ra, rb) :: (ra, rc) :: (ea ++ (eb ++ ec)))
    else none
theorem cons1_some {ob : List Ob} {x : Option (Res × List (Res × Res))} {st' : St} {evs' : List Ev} {obs : List Ob} {q : List (Res × Res)} (h : cons1 ob x = some ((st', evs', obs), q)) : ∃ ob2, x = some ((st', evs', ob2), q) ∧ obs = ob ++ ob2 := by
  unfold cons1 at h
  split at h
  · rename_i st evs ob2 q'
    simp only [Option.some.injEq, Prod.mk.injEq] at h
    obtain ⟨⟨rfl, rfl, rfl⟩, rfl⟩ := h
    exact ⟨ob2, rfl, rfl⟩
  · cases h
theorem oneStep_some {P : Program} {ops : Array Oper} {L : List (Nat × Nat)} {i : Nat} {st : St} {evs : List Ev} {r : Res} (h : oneStep P ops L i st evs = some r) : ∃ o, ops[i]? = some o ∧ wantedB ops st.fr o = some true ∧ noHit P L st.fr o evs = true ∧ stepOp P st o evs = some r := by
  unfold oneStep at h
  split at h
  · cases h
  · rename_i o ho
    split at h
    · rename_i hw
      split at h
      · rename_i hn
        exact ⟨o, ho, hw, hn, h⟩
      · cases h
    · cases h
/-- The cells of L hold what they held when the region began. -/
def LInv (hp0 : Hp) (L : List (Nat × Nat)) (st : St) : Prop := ∀ q ∈ L, ∃ b0 b c, getB hp0 q.1 = some b0 ∧ b0.cs[q.2]? = some c ∧ getB st.hp q.1 = some b ∧ b.cs[q.2]? = some c
def SL (γ0 : Nat → Nat × Nat) (hp0 : Hp) (L : List (Nat × Nat)) (w0 : World) (bs : List Nat) (w : World) : Prop :=
  Kept bs w0 w ∧ ∀ q ∈ L, ∃ b c, getB hp0 q.1 = some b ∧ b.cs[q.2]? = some c ∧ w.cell? ⟨(γ0 q.1).1, q.2, none⟩ = some (c.den γ0)
section
variable {P : Program} {γ γ0 : Nat → Nat × Nat} {st st' : St} {o : Oper} {evs evs' : List Ev} {obs : List Ob} {w0 w : World} {bs : List Nat} {x : FV} {hp0 : Hp} {L : List (Nat × Nat)}
theorem SL_of (hl : Loc γ st w0 bs w) (hi : LInv hp0 L st) (hγ : ∀ i, Dom hp0 i → γ0 i = γ i) (hs : ∀ i b, getB hp0 i = some b → ∀ c ∈ b.cs, C.sc (Dom hp0) c) : SL γ0 hp0 L w0 bs w := by
  refine ⟨hl.kept, fun q hq => ?_⟩
  obtain ⟨b0, b, c, h1, h2, h3, h4⟩ := hi q hq
  refine ⟨b0, c, h1, h2, ?_⟩
  rw [hγ _ (dom_of h1), C.agree hγ (hs _ b0 h1 c (List.mem_of_getElem? h2))]
  exact hl.cell h3 h4
theorem takeV_yields (ops : Array Oper) (hl : Loc γ st w0 bs w) (hi : LInv hp0 L st) (hγ : ∀ i, Dom hp0 i → γ0 i = γ i) (hs : ∀ i b, getB hp0 i = some b → ∀ c ∈ b.cs, C.sc (Dom hp0) c)
    (hw : Region.wanted o (yielded ops (act γ st.fr).tmps) = true) (h : takeV P L st o evs = some (st', evs', obs)) (hv : Valid P (w0, bs) evs) (ho : ∀ q ∈ obs, q.holds) :
    Valid P (w0, bs) evs' ∧ ∃ y : FV, y.sc (Dom st.hp) ∧ st' = st.put o.dst y ∧ YieldsIf P ops (SL γ0 hp0 L w0 bs) o (y.den γ) (act γ st.fr) := by
  unfold takeV at h
  split at h
  · rename_i hin
    split at h
    · rename_i x hx
      have hsc := (stepL_run hl hx).2
      have hyx : YieldsIf P ops (SL γ0 hp0 L w0 bs) o (x.den γ) (act γ st.fr) := by
        refine .inl ⟨hw, fun w' hS => ?_⟩
        unfold stepL at hx
        unfold inL at hin
        split at hx
        · rename_i t a hop
          rw [hop] at hin
          split at hx
          · rename_i i off ha
            simp only [ha] at hin
            split at hx
            · rename_i b hb
              split at hx
              · rename_i y hy
                obtain rfl := Option.some.inj hx
                have ea : (act γ st.fr).eval a = .pointer (some ⟨(γ i).1, off, none⟩) := by rw [ev_den, ha]; rfl
                have e1 := loadC_run (γ := γ) (g := (γ i).1) (w := w') hy (fun j c hc h1 h2 => by
                  have h3 := List.all_eq_true.1 hin (j - off) (List.mem_range.2 (by omega))
                  rw [show off + (j - off) = j by omega] at h3
                  have hq : (i, j) ∈ L := by simpa using h3
                  obtain ⟨b1, c1, e1, e2, e3⟩ := hS.2 _ hq
                  obtain ⟨b2, b3, c2, f1, f2, f3, f4⟩ := hi _ hq
                  obtain rfl : b3 = b := Option.some.inj (f3.symm.trans hb)
                  obtain rfl : c2 = c := Option.some.inj (f4.symm.trans hc)
                  obtain rfl : b1 = b2 := Option.some.inj (e1.symm.trans f1)
                  obtain rfl : c1 = c2 := Option.some.inj (e2.symm.trans f2)
                  rw [hγ _ (dom_of e1), C.agree hγ (hs _ b1 e1 c1 (List.mem_of_getElem? e2))] at e3
                  exact e3)
                unfold execOp
                simp only [hop, ea, Sem.run_bind, e1, Result.andThen_ok]
                rfl
              · cases hx
            · cases hx
          · cases hx
        · cases hx
      unfold finV at h
      split at h
      · rename_i d y y' r
        split at h
        · split at h
          · rename_i z hz
            simp only [Option.some.injEq, Prod.mk.injEq] at h
            obtain ⟨rfl, rfl, rfl⟩ := h
            have h1 : z = y := ho _ (List.mem_singleton.2 rfl)
            have h2 : y = y' := hv.1
            refine ⟨hv.2, pv y', trivial, rfl, ?_⟩
            have : x.den γ = (pv y').den γ := by rw [pval_den hz, h1, h2]; rfl
            rw [← this]
            exact hyx
          · cases h
        · simp only [Option.some.injEq, Prod.mk.injEq] at h
          obtain ⟨rfl, rfl, rfl⟩ := h
          exact ⟨hv, x, hsc, rfl, hyx⟩
      · simp only [Option.some.injEq, Prod.mk.injEq] at h
        obtain ⟨rfl, rfl, rfl⟩ := h
        exact ⟨hv, x, hsc, rfl, hyx⟩
    · cases h
  · obtain ⟨x, rfl, hv', hr⟩ := orcV_run (P := P) (γ := γ) h hv ho
    exact ⟨hv', pv x, trivial, rfl, .inl ⟨hw, fun w' hS => hr w' hS.1⟩⟩
end

section
variable {P : Program} {ops : Array Oper} {T : Bool × List (List Nat × List Nat)} {B : List Nat} {L : List (Nat × Nat)} {ds : List Nat}
theorem schedStep_tail {Ext : World × List Nat} {k i : Nat} {o : Oper} {mask : List Bool} {good : Bool} {st st' : St} {evs evs' : List Ev} {obs : List Ob} (h : schedStep P ops T B L ds k i o mask good st evs = some (st', evs', obs)) (hv : Valid P Ext evs) : Valid P Ext evs' ∧ Sub st.hp st'.hp := by
  unfold schedStep at h
  split at h
  · cases h
  · split at h
    · simp only [Option.some.injEq, Prod.mk.injEq] at h
      obtain ⟨rfl, rfl, rfl⟩ := h
      exact ⟨hv, by rw [put_hp]; exact Sub.refl _⟩
    · cases h
  · split at h
    · split at h
      · split at h
        · obtain ⟨h1, h2⟩ := finV_tail h hv
          exact ⟨h1, by rw [h2]; exact Sub.refl _⟩
        · cases h
      · cases h
    · split at h
      · unfold takeV at h
        split at h
        · split at h
          · obtain ⟨h1, h2⟩ := finV_tail h hv
            exact ⟨h1, by rw [h2]; exact Sub.refl _⟩
          · cases h
        · obtain ⟨h1, h2⟩ := orcV_tail h hv
          exact ⟨h1, by rw [h2]; exact Sub.refl _⟩
      · cases h
    · split at h
      · exact stepOp_tail h hv
      · cases h
    · split at h
      · exact stepOp_tail h hv
      · cases h
    · cases h
theorem runSched_tail {Ext : World × List Nat} : ∀ (tr : Tr) (mask : List Bool) (good : Bool) (st : St) (evs : List Ev) {st' : St} {evs' : List Ev} {obs : List Ob} {q : List (Res × Res)}, runSched P ops T B L ds tr mask good st evs = some ((st', evs', obs), q) → Valid P Ext evs → Valid P Ext evs' ∧ Sub st.hp st'.hp
  | .e, mask, good, st, evs, st', evs', obs, q, h, hv => by
    unfold runSched at h
    split at h
    · simp only [Option.some.injEq, Prod.mk.injEq] at h
      obtain ⟨⟨rfl, rfl, rfl⟩, rfl⟩ := h
      exact ⟨hv, Sub.refl _⟩
    · cases h
  | .s k i r, mask, good, st, evs, st', evs', obs, q, h, hv => by
    unfold runSched at h
    split at h
    · cases h
    · split at h
      · cases h
      · rename_i st1 evs1 ob1 hs
        obtain ⟨ob2, hr, rfl⟩ := cons1_some h
        obtain ⟨h1, h2⟩ := schedStep_tail hs hv
        obtain ⟨h3, h4⟩ := runSched_tail r _ _ st1 evs1 hr h1
        exact ⟨h3, h2.trans h4⟩
  | .two i a j b, mask, good, st, evs, st', evs', obs, q, h, hv => by
    unfold runSched at h
    split at h
    · split at h
      · cases h
      · rename_i st1 evs1 ob1 h1
        split at h
        · cases h
        · split at h
          · cases h
          · rename_i ra ea hra
            split at h
            · cases h
            · rename_i rb eb hrb
              simp only [Option.some.injEq, Prod.mk.injEq] at h
              obtain ⟨rfl, rfl⟩ := h
              obtain ⟨ob2, hr, rfl⟩ := cons1_some hra
              obtain ⟨o, _, _, _, hs⟩ := oneStep_some h1
              obtain ⟨h1, h2⟩ := stepOp_tail hs hv
              obtain ⟨h3, h4⟩ := runSched_tail a _ _ st1 evs1 hr h1
              exact ⟨h3, h2.trans h4⟩
    · cases h
  | .three i a j b k c, mask, good, st, evs, st', evs', obs, q, h, hv => by
    unfold runSched at h
    split at h
    · split at h
      · cases h
      · rename_i st1 evs1 ob1 h1
        split at h
        · cases h
        · split at h
          · cases h
          · split at h
            · cases h
            · rename_i ra ea hra
              split at h
              · cases h
              · split at h
                · cases h
                · rename_i rb eb hrb _ rc ec hrc
                  simp only [Option.some.injEq, Prod.mk.injEq] at h
                  obtain ⟨rfl, rfl⟩ := h
                  obtain ⟨ob2, hr, rfl⟩ := cons1_some hra
                  obtain ⟨o, _, _, _, hs⟩ := oneStep_some h1
                  obtain ⟨h1, h2⟩ := stepOp_tail hs hv
                  obtain ⟨h3, h4⟩ := runSched_tail a _ _ st1 evs1 hr h1
                  exact ⟨h3, h2.trans h4⟩
    · cases h
/-- One of several operations that may come up. -/
theorem forkWay {γ γ0 : Nat → Nat × Nat} {hp0 : Hp} {w0 w : World} {bs : List Nat} {Q : Exit → Act → World → Prop} {st st' st1 : St} {evs evs' evs1 : List Ev} {obs ob1 : List Ob} {x : Option (Res × List (Res × Res))} {e : List (Res × Res)} {o : Oper}
    (hl : Loc γ st w0 bs w) (hv : Valid P (w0, bs) evs) (ho : ∀ q ∈ obs, q.holds) (hγ : ∀ i, Dom hp0 i → γ0 i = γ i) (hle : Sub hp0 st.hp) (hg : LInv hp0 L st) (hs0 : ∀ i b, getB hp0 i = some b → ∀ c ∈ b.cs, C.sc (Dom hp0) c)
    (hw : wantedB ops st.fr o = some true) (hn : noHit P L st.fr o evs = true) (hs : stepOp P st o evs = some (st1, evs1, ob1)) (hra : cons1 ob1 x = some ((st', evs', obs), e)) (K : Act → World → Prop)
    (hK : ∀ ob2, x = some ((st', evs', ob2), e) → ∀ γ' w', (∀ i, Dom st.hp i → γ i = γ' i) → Loc γ' st1 w0 bs w' → (∀ i, Dom hp0 i → γ0 i = γ' i) → LInv hp0 L st1 → Valid P (w0, bs) evs1 → (∀ q ∈ ob2, q.holds) → Sub hp0 st1.hp → K (act γ' st1.fr) w') :
    (if Region.wanted o (yielded ops (act γ st.fr).tmps) = true then Oper.wp P o (act γ st.fr) w K Q else K ((act γ st.fr).put o.dst undef) w) := by
  obtain ⟨ob2, hr, rfl⟩ := cons1_some hra
  have ho1 : ∀ q ∈ ob1, q.holds := fun q hq => ho q (List.mem_append_left _ hq)
  have ho2 : ∀ q ∈ ob2, q.holds := fun q hq => ho q (List.mem_append_right _ hq)
  obtain ⟨hv1, hle1⟩ := stepOp_tail hs hv
  have hi1 : LInv hp0 L st1 := by
    intro q hq'
    obtain ⟨b0, b, c, e1, e2, e3, e4⟩ := hg q hq'
    obtain ⟨b', e5, e6⟩ := stepOp_cell hs hn hq' e3 e4
    exact ⟨b0, b', c, e1, e2, e5, e6⟩
  rw [if_pos (wantedB_eq hw γ)]
  obtain ⟨_, _, h3⟩ := stepOp_leaves hl hs hv ho1
  exact h3 K Q fun γ' w' hag hl' => hK ob2 hr γ' w' hag hl' (fun j hj => (hγ j hj).trans (hag j (hle j hj))) hi1 hv1 ho2 (hle.trans hle1)
set_option maxHeartbeats 2000000 in
theorem runSched_wp {γ0 : Nat → Nat × Nat} {hp0 : Hp} {w0 : World} {bs : List Nat} {Q : Exit → Act → World → Prop} (hT : rtab .any ops = T) (hB : waitsOk T.2 B = true) (hs0 : ∀ i b, getB hp0 i = some b → ∀ c ∈ b.cs, C.sc (Dom hp0) c) (hQ : ∀ c a w, ¬ Q (.panic c) a w) :
    ∀ (tr : Tr) (mask : List Bool) (good : Bool) (st : St) (evs : List Ev) {st' : St} {evs' : List Ev} {obs : List Ob} {eqs : List (Res × Res)} {γ : Nat → Nat × Nat} {w : World} (fuel : Nat), runSched P ops T B L ds tr mask good st evs = some ((st', evs', obs), eqs) → (∀ p ∈ eqs, p.1 = p.2) →
    Loc γ st w0 bs w → Valid P (w0, bs) evs → (∀ q ∈ obs, q.holds) → (∀ i, Dom hp0 i → γ0 i = γ i) → Sub hp0 st.hp → (good = true → LInv hp0 L st) → tr.depth ≤ fuel →
    (∀ γ' w', (∀ i, Dom st.hp i → γ i = γ' i) → Loc γ' st' w0 bs w' → Q .normal (act γ' st'.fr) w') → wpAnyLast P .any ops Q (SL γ0 hp0 L w0 bs) ds fuel mask.toArray (act γ st.fr) w
  | .e, mask, good, st, evs, st', evs', obs, eqs, γ, w, fuel, h, heq, hl, hv, ho, hγ, hle, hg, hf, hq => by
    unfold runSched at h
    split at h
    · rename_i hd
      simp only [Option.some.injEq, Prod.mk.injEq] at h
      obtain ⟨⟨rfl, rfl, rfl⟩, rfl⟩ := h
      exact done_ (done_of (l := mask.toArray) hT hd) (hq γ w (fun _ _ => rfl) hl)
    · cases h
  | .s k i r, mask, good, st, evs, st', evs', obs, eqs, γ, w, fuel, h, heq, hl, hv, ho, hγ, hle, hg, hf, hq => by
    unfold runSched at h
    split at h
    · cases h
    · rename_i o hi
      split at h
      · cases h
      · rename_i st1 evs1 ob1 hs
        · obtain ⟨ob2, hr, rfl⟩ := cons1_some h
          have ho1 : ∀ q ∈ ob1, q.holds := fun q hq => ho q (List.mem_append_left _ hq)
          have ho2 : ∀ q ∈ ob2, q.holds := fun q hq => ho q (List.mem_append_right _ hq)
          obtain ⟨hv1, hle1⟩ := schedStep_tail hs hv
          obtain ⟨fuel, rfl⟩ : ∃ m, fuel = m + 1 := ⟨fuel - 1, by simp [Tr.depth] at hf; omega⟩
          have hf' : r.depth ≤ fuel := by simp [Tr.depth] at hf; omega
          -- what follows, once the operation's value is in its place and nothing else has turned
          have same : ∀ y : FV, y.sc (Dom st.hp) → st1 = st.put o.dst y → (good && k != 3) = good → wpAnyLast P .any ops Q (SL γ0 hp0 L w0 bs) ds fuel (mask.set i true).toArray ((act γ st.fr).put o.dst (y.den γ)) w := by
            rintro y hy rfl hgd
            rw [← act_put]
            have := runSched_wp hT hB hs0 hQ r (mask.set i true) (good && k != 3) _ evs1 fuel hr heq (hl.put o.dst hy) hv1 ho2 hγ (by rw [put_hp]; exact hle) (fun h => by
              rw [hgd] at h
              intro q hq'
              rw [put_hp]
              exact hg h q hq') hf' (fun γ' w' hag hl' => hq γ' w' (by rw [put_hp] at hag; exact hag) hl')
            exact this
          -- behind an operation that is carried out where it alone may come up
          have step : stepOp P st o evs = some (st1, evs1, ob1) → Region.wanted o (yielded ops (act γ st.fr).tmps) = true → ∀ (S : Prop → Prop) (K : Act → World → Prop),
              (∀ γ' w', (∀ i, Dom st.hp i → γ i = γ' i) → Loc γ' st1 w0 bs w' → K (act γ' st1.fr) w') → (if Region.wanted o (yielded ops (act γ st.fr).tmps) = true then Oper.wp P o (act γ st.fr) w K Q else K ((act γ st.fr).put o.dst undef) w) := by
            intro h1 hw S K hK
            rw [if_pos hw]
            obtain ⟨_, _, h3⟩ := stepOp_leaves hl h1 hv ho1
            exact h3 K Q hK
          have hset : (mask.toArray.toList.set i true == (mask.set i true).toArray.toList) = true := by simp
          unfold schedStep at hs
          split at hs
          · cases hs
          · rename_i hw
            have hw' := wantedB_eq hw γ
            split at hs
            · rename_i hc
              obtain ⟨rfl, hc⟩ := hc
              simp only [Option.some.injEq, Prod.mk.injEq] at hs
              obtain ⟨rfl, rfl, rfl⟩ := hs
              exact pure_ (v := undef) (mask.set i true).toArray hi rfl (any_of (l := mask.toArray) (l' := (mask.set i true).toArray) hT hc) (fun c a w h => absurd h (hQ c _ w)) (.inr ⟨hw', rfl⟩) rfl (same (pv undef) trivial rfl (by simp))
            · cases hs
          · rename_i hw
            have hw' := wantedB_eq hw γ
            split at hs
            · split at hs
              · rename_i hc
                split at hs
                · rename_i x hx
                  have hy : ∀ y : FV, y.den γ = x.den γ → Yields P ops o (y.den γ) (act γ st.fr) := fun y e => .inl ⟨hw', fun w' => by rw [e]; exact stepY_run hx γ w'⟩
                  have fin : ∀ y : FV, y.sc (Dom st.hp) → y.den γ = x.den γ → st1 = st.put o.dst y → wpAnyLast P .any ops Q (SL γ0 hp0 L w0 bs) ds (fuel + 1) mask.toArray (act γ st.fr) w := fun y hsc e e2 =>
                    pure_ (v := y.den γ) (mask.set i true).toArray hi rfl (any_of (l := mask.toArray) (l' := (mask.set i true).toArray) hT hc) (fun c a w h => absurd h (hQ c _ w)) (hy y e) rfl (same y hsc e2 (by simp))
                  unfold finV at hs
                  split at hs
                  · rename_i d y y' r'
                    split at hs
                    · split at hs
                      · rename_i z hz
                        simp only [Option.some.injEq, Prod.mk.injEq] at hs
                        obtain ⟨rfl, rfl, rfl⟩ := hs
                        have h1 : z = y := ho1 _ (List.mem_singleton.2 rfl)
                        have h2 : y = y' := hv.1
                        exact fin (pv y') trivial (by rw [pval_den hz, h1, h2]; rfl) rfl
                      · cases hs
                    · simp only [Option.some.injEq, Prod.mk.injEq] at hs
                      obtain ⟨rfl, rfl, rfl⟩ := hs
                      exact fin x (stepY_sc hl.scf hx) rfl rfl
                  · simp only [Option.some.injEq, Prod.mk.injEq] at hs
                    obtain ⟨rfl, rfl, rfl⟩ := hs
                    exact fin x (stepY_sc hl.scf hx) rfl rfl
                · cases hs
              · cases hs
            · split at hs
              · rename_i hc
                obtain ⟨hgd, hc⟩ := hc
                obtain ⟨_, y, hy, rfl, hyi⟩ := takeV_yields ops hl (hg hgd) hγ hs0 hw' hs hv ho1
                exact take_ (v := y.den γ) (mask.set i true).toArray hi rfl (take_ofW (l := mask.toArray) (l' := (mask.set i true).toArray) hT hB hc) (fun c a w h => absurd h (hQ c _ w)) hyi (SL_of hl (hg hgd) hγ hs0) rfl (same y hy rfl (by simp))
              · cases hs
            · split at hs
              · rename_i hc
                obtain ⟨hgd, hc, hnd, hnh⟩ := hc
                have hi1 : LInv hp0 L st1 := by
                  intro q hq'
                  obtain ⟨b0, b, c, e1, e2, e3, e4⟩ := hg hgd q hq'
                  obtain ⟨b', e5, e6⟩ := stepOp_cell hs hnh hq' e3 e4
                  exact ⟨b0, b', c, e1, e2, e5, e6⟩
                refine one_ (mask.set i true).toArray hi rfl (one_of (l := mask.toArray) (l' := (mask.set i true).toArray) hT (by rw [Bool.and_eq_true]; exact ⟨hc, hset⟩)) (by simpa using hnd) (fun K hK => step hs hw' id K fun γ' w' hag hl' => ?_)
                have hγ' : ∀ j, Dom hp0 j → γ0 j = γ' j := fun j hj => (hγ j hj).trans (hag j (hle j hj))
                exact hK _ _ (SL_of hl' hi1 hγ' hs0) fun _ =>
                  runSched_wp hT hB hs0 hQ r (mask.set i true) _ _ evs1 fuel hr heq hl' hv1 ho2 hγ' (hle.trans hle1) (fun _ => hi1) hf' (fun γ'' w'' hag' hl'' => hq γ'' w'' (fun j hj => (hag j hj).trans (hag' j (hle1 j hj))) hl'')
              · cases hs
            · split at hs
              · rename_i hc
                obtain ⟨hc, hd⟩ := hc
                refine last_ (mask.set i true).toArray hi rfl (one_of (l := mask.toArray) (l' := (mask.set i true).toArray) hT (by rw [Bool.and_eq_true]; exact ⟨hc, hset⟩)) (by simpa using hd) (fun K hK => step hs hw' id K fun γ' w' hag hl' => ?_)
                have hγ' : ∀ j, Dom hp0 j → γ0 j = γ' j := fun j hj => (hγ j hj).trans (hag j (hle j hj))
                exact hK _ _ (runSched_wp hT hB hs0 hQ r (mask.set i true) _ _ evs1 fuel hr heq hl' hv1 ho2 hγ' (hle.trans hle1) (fun h => by simp at h) hf' (fun γ'' w'' hag' hl'' => hq γ'' w'' (fun j hj => (hag j hj).trans (hag' j (hle1 j hj))) hl''))
              · cases hs
            · cases hs
  | .two i a j b, mask, good, st, evs, st', evs', obs, eqs, γ, w, fuel, h, heq, hl, hv, ho, hγ, hle, hg, hf, hq => by
    unfold runSched at h
    split at h
    · rename_i hc
      obtain ⟨hgd, hc, hd1, hd2⟩ := hc
      split at h
      · cases h
      · rename_i st1 evs1 ob1 h1
        split at h
        · cases h
        · rename_i st2 evs2 ob2 h2
          split at h
          · cases h
          · rename_i ra ea hra
            split at h
            · cases h
            · rename_i rb eb hrb
              simp only [Option.some.injEq, Prod.mk.injEq] at h
              obtain ⟨rfl, rfl⟩ := h
              have hab := heq _ (List.mem_cons_self)
              simp only at hab
              subst hab
              obtain ⟨fuel, rfl⟩ : ∃ m, fuel = m + 1 := ⟨fuel - 1, by simp [Tr.depth] at hf; omega⟩
              have hfa : a.depth ≤ fuel := by simp [Tr.depth] at hf; omega
              have hfb : b.depth ≤ fuel := by simp [Tr.depth] at hf; omega
              obtain ⟨oa, hoa, hwa, hna, hsa⟩ := oneStep_some h1
              obtain ⟨ob, hob, hwb, hnb, hsb⟩ := oneStep_some h2
              have way := fun (i : Nat) (tr : Tr) (o : Oper) (st1 : St) (evs1 : List Ev) (ob1 : List Ob) (e : List (Res × Res)) (hw : wantedB ops st.fr o = some true) (hn : noHit P L st.fr o evs = true) (hs : stepOp P st o evs = some (st1, evs1, ob1))
                  (hra : cons1 ob1 (runSched P ops T B L ds tr (mask.set i true) true st1 evs1) = some ((st', evs', obs), e)) (hdp : tr.depth ≤ fuel) (he : ∀ p ∈ e, p.1 = p.2) (K : Act → World → Prop)
                  (hK : Shut (∀ a' w', SL γ0 hp0 L w0 bs w' → (SL γ0 hp0 L w0 bs w' → wpAnyLast P .any ops Q (SL γ0 hp0 L w0 bs) ds fuel (mask.set i true).toArray a' w') → K a' w')) =>
                forkWay (Q := Q) hl hv ho hγ hle (hg hgd) hs0 hw hn hs hra K (fun ob2 hr γ' w' hag hl' hγ' hi1 hv1 ho2 hle1 => hK _ _ (SL_of hl' hi1 hγ' hs0) fun _ =>
                  runSched_wp hT hB hs0 hQ tr (mask.set i true) true st1 evs1 fuel hr he hl' hv1 ho2 hγ' hle1 (fun _ => hi1) hdp (fun γ'' w'' hag' hl'' => hq γ'' w'' (fun j hj => (hag j hj).trans (hag' j ((stepOp_tail hs hv).2 j hj))) hl''))
              exact two_ (mask.set i true).toArray (mask.set j true).toArray hoa hob rfl rfl (two_of (l := mask.toArray) (li := (mask.set i true).toArray) (lj := (mask.set j true).toArray) hT (by simp only [Bool.and_eq_true]; exact ⟨⟨hc, by simp⟩, by simp⟩)) (by simpa using hd1) (by simpa using hd2)
                (fun K hK => way i a oa st1 evs1 ob1 ea hwa hna hsa hra hfa (fun p hp => heq p (List.mem_cons_of_mem _ (List.mem_append_left _ hp))) K hK)
                (fun K hK => way j b ob st2 evs2 ob2 eb hwb hnb hsb hrb hfb (fun p hp => heq p (List.mem_cons_of_mem _ (List.mem_append_right _ hp))) K hK)
    · cases h
  | .three i a j b k c, mask, good, st, evs, st', evs', obs, eqs, γ, w, fuel, h, heq, hl, hv, ho, hγ, hle, hg, hf, hq => by
    unfold runSched at h
    split at h
    · rename_i hc
      obtain ⟨hgd, hc, hd1, hd2, hd3⟩ := hc
      split at h
      · cases h
      · rename_i st1 evs1 ob1 h1
        split at h
        · cases h
        · rename_i st2 evs2 ob2 h2
          split at h
          · cases h
          · rename_i st3 evs3 ob3 h3
            split at h
            · cases h
            · rename_i ra ea hra
              split at h
              · cases h
              · rename_i rb eb hrb
                split at h
                · cases h
                · rename_i rc ec hrc
                  simp only [Option.some.injEq, Prod.mk.injEq] at h
                  obtain ⟨rfl, rfl⟩ := h
                  have hab := heq _ (List.mem_cons_self)
                  have hac := heq _ (List.mem_cons_of_mem _ List.mem_cons_self)
                  simp only at hab hac
                  subst hab
                  subst hac
                  have heq' : ∀ p, p ∈ ea ∨ p ∈ eb ∨ p ∈ ec → p.1 = p.2 := fun p hp => heq p (List.mem_cons_of_mem _ (List.mem_cons_of_mem _ (by simpa using hp)))
                  obtain ⟨fuel, rfl⟩ : ∃ m, fuel = m + 1 := ⟨fuel - 1, by simp [Tr.depth] at hf; omega⟩
                  have hfa : a.depth ≤ fuel := by simp [Tr.depth] at hf; omega
                  have hfb : b.depth ≤ fuel := by simp [Tr.depth] at hf; omega
                  have hfc : c.depth ≤ fuel := by simp [Tr.depth] at hf; omega
                  obtain ⟨oa, hoa, hwa, hna, hsa⟩ := oneStep_some h1
                  obtain ⟨ob, hob, hwb, hnb, hsb⟩ := oneStep_some h2
                  obtain ⟨oc, hoc, hwc, hnc, hsc⟩ := oneStep_some h3
                  have way := fun (i : Nat) (tr : Tr) (o : Oper) (st1 : St) (evs1 : List Ev) (ob1 : List Ob) (e : List (Res × Res)) (hw : wantedB ops st.fr o = some true) (hn : noHit P L st.fr o evs = true) (hs : stepOp P st o evs = some (st1, evs1, ob1))
                      (hra : cons1 ob1 (runSched P ops T B L ds tr (mask.set i true) true st1 evs1) = some ((st', evs', obs), e)) (hdp : tr.depth ≤ fuel) (he : ∀ p ∈ e, p.1 = p.2) (K : Act → World → Prop)
                      (hK : Shut (∀ a' w', SL γ0 hp0 L w0 bs w' → (SL γ0 hp0 L w0 bs w' → wpAnyLast P .any ops Q (SL γ0 hp0 L w0 bs) ds fuel (mask.set i true).toArray a' w') → K a' w')) =>
                    forkWay (Q := Q) hl hv ho hγ hle (hg hgd) hs0 hw hn hs hra K (fun ob2 hr γ' w' hag hl' hγ' hi1 hv1 ho2 hle1 => hK _ _ (SL_of hl' hi1 hγ' hs0) fun _ =>
                      runSched_wp hT hB hs0 hQ tr (mask.set i true) true st1 evs1 fuel hr he hl' hv1 ho2 hγ' hle1 (fun _ => hi1) hdp (fun γ'' w'' hag' hl'' => hq γ'' w'' (fun j hj => (hag j hj).trans (hag' j ((stepOp_tail hs hv).2 j hj))) hl''))
                  exact three_ (mask.set i true).toArray (mask.set j true).toArray (mask.set k true).toArray hoa hob hoc rfl rfl rfl (three_of (l := mask.toArray) (li := (mask.set i true).toArray) (lj := (mask.set j true).toArray) (lk := (mask.set k true).toArray) hT (by simp only [Bool.and_eq_true]; exact ⟨⟨⟨hc, by simp⟩, by simp⟩, by simp⟩)) (by simpa using hd1) (by simpa using hd2) (by simpa using hd3)
                    (fun K hK => way i a oa st1 evs1 ob1 ea hwa hna hsa hra hfa (fun p hp => heq' p (.inl hp)) K hK)
                    (fun K hK => way j b ob st2 evs2 ob2 eb hwb hnb hsb hrb hfb (fun p hp => heq' p (.inr (.inl hp))) K hK)
                    (fun K hK => way k c oc st3 evs3 ob3 ec hwc hnc hsc hrc hfc (fun p hp => heq' p (.inr (.inr hp))) K hK)
    · cases h
end

/-! ### a body -/
/-- From here on, what is left to do being todo, the function ends as R says. -/
def WpF (P : Program) (R : Exit → Act → World → Prop) (todo : List Item) (a : Act) (w : World) : Prop :=
  ∀ (b : Frame) (cs : List Frame), ∃ e a' w', R e a' w' ∧ Arrives P (lone (b.at a todo) cs w) b [] cs e a' w'
section
variable {P : Program} {R : Exit → Act → World → Prop} {todo todo' k : List Item} {a : Act} {w : World}
theorem WpF.step (hs : ∀ (b : Frame) (cs : List Frame), Go.step P (lone (b.at a todo) cs w) = .next (lone (b.at a todo') cs w)) (h : WpF P R todo' a w) : WpF P R todo a w := fun b cs =>
  let ⟨e, a', w', q, r⟩ := h b cs; ⟨e, a', w', q, .of_steps (.one (hs b cs)) r⟩
theorem WpF.done (h : R .normal a w) : WpF P R [] a w := fun b cs => ⟨.normal, a, w, h, Steps.refl _ _⟩
theorem WpF.ret (h : R .ret a w) : WpF P R (.code .ret :: k) a w := fun b cs => ⟨.ret, a, w, h, _, .one step_ret⟩
/-- A piece of code by its wp, where it ends as it stands. -/
def NormalThen (P : Program) (R : Exit → Act → World → Prop) (k : List Item) : Exit → Act → World → Prop
  | .normal, a, w => WpF P R k a w
  | _, _, _ => False
theorem WpF.code {c : Code} (h : c.wp P (NormalThen P R k) a w) : WpF P R (.code c :: k) a w := fun b cs => by
  obtain ⟨e, a', w', q, r⟩ := h b k cs
  cases e with
  | normal =>
    obtain ⟨e2, a2, w2, q2, r2⟩ := q b cs
    exact ⟨e2, a2, w2, q2, .of_steps r r2⟩
  | _ => exact q.elim
theorem step_scope {b : Frame} {cs : List Frame} {c : Code} : Go.step P (lone (b.at a (.code (.scope c) :: k)) cs w) = .next (lone (b.at a (.code c :: .inScope c :: k)) cs w) :=
  step_lone_go (by simp [stepG, stepG.exec, Frame.at])
theorem step_inScope {b : Frame} {cs : List Frame} {c : Code} : Go.step P (lone (b.at a (.inScope c :: k)) cs w) = .next (lone (b.at a k) cs w) :=
  step_lone_go (by simp [stepG, stepG.exec, Frame.at])
end
/-- The cells of L that the state has. -/
def lAll (L : List (Nat × Nat)) (st : St) : Bool := L.all fun q => match getB st.hp q.1 with
  | some b => match b.cs[q.2]? with
    | some _ => true
    | none => false
  | none => false
def tabOk (ops : Array Oper) (T : Bool × List (List Nat × List Nat)) (B : List Nat) : Bool := rtab .any ops == T && waitsOk T.2 B
/-- The body, along the way that the events tell, to its end or its 'return'. -/
def cons2 (q : List (Res × Res)) : Option (Res × List (Res × Res)) → Option (Res × List (Res × Res))
  | some (r, q2) => some (r, q ++ q2)
  | none => none
theorem cons2_some {q : List (Res × Res)} {x : Option (Res × List (Res × Res))} {r : Res} {q' : List (Res × Res)} (h : cons2 q x = some (r, q')) : ∃ q2, x = some (r, q2) ∧ q' = q ++ q2 := by
  unfold cons2 at h
  split at h
  · rename_i r' q2
    simp only [Option.some.injEq, Prod.mk.injEq] at h
    obtain ⟨rfl, rfl⟩ := h
    exact ⟨q2, rfl, rfl⟩
  · cases h
def run (P : Program) : Nat → List Item → St → List Ev → Option (Res × List (Res × Res))
  | 0, _, _, _ => none
  | n + 1, todo, st, evs => match todo with
    | [] => some ((st, evs, []), [])
    | .code .skip :: k => run P n k st evs
    | .code (.label _) :: k => run P n k st evs
    | .code (.seq a b) :: k => run P n (.code a :: .code b :: k) st evs
    | .code (.cond x a b) :: k => match ev st.fr x with
      | .av (.one (.v (.bool t))) => run P n (.code (if t then a else b) :: k) st evs
      | _ => none
    | .code (.block id c) :: k => run P n (.code c :: .inBlock id :: k) st evs
    | .code (.loop c) :: k => run P n (.code c :: .inLoop c :: k) st evs
    | .code (.scope c) :: k => run P n (.code c :: .inScope c :: k) st evs
    | .code (.exit id) :: k => match exitTo id k with
      | some k' => run P n k' st evs
      | none => none
    | .code .ret :: _ => some ((st, evs, []), [])
    | .code (.region _ ops false) :: k => match seqOps P ops (List.range ops.size) st evs with
      | some (st1, evs1, ob1) => cons1 ob1 (run P n k st1 evs1)
      | none => none
    | .code (.region _ ops true) :: k => match evs with
      | .sched T B L ds tr :: r => if tabOk ops T B = true ∧ tr.depth ≤ ops.size ∧ lAll L st = true then match runSched P ops T B L ds tr (List.replicate ops.size false) true st r with
        | some ((st1, evs1, ob1), q1) => cons2 q1 (cons1 ob1 (run P n k st1 evs1))
        | none => none
        else none
      | _ => none
    | .inBlock _ :: k => run P n k st evs
    | .inScope _ :: k => run P n k st evs
    | .inLoop c :: k => run P n (.code c :: .inLoop c :: k) st evs
    | _ => none
theorem run_wp {P : Program} (hm : P.follows .mixedOrders = true) {R : Exit → Act → World → Prop} {w0 : World} {bs : List Nat} : ∀ (n : Nat) (todo : List Item) (st : St) (evs : List Ev) {st' : St} {evs' : List Ev} {obs : List Ob} {eqs : List (Res × Res)} {γ : Nat → Nat × Nat} {w : World}, run P n todo st evs = some ((st', evs', obs), eqs) → (∀ p ∈ eqs, p.1 = p.2) →
    Loc γ st w0 bs w → Valid P (w0, bs) evs → (∀ q ∈ obs, q.holds) → (∀ γ' w' e, (∀ i, Dom st.hp i → γ i = γ' i) → Loc γ' st' w0 bs w' → Sub st.hp st'.hp → e = .normal ∨ e = .ret → R e (act γ' st'.fr) w') → WpF P R todo (act γ st.fr) w
  | 0, todo, st, evs, st', evs', obs, eqs, γ, w, h, heq, hl, hv, ho, hR => by simp [run] at h
  | n + 1, todo, st, evs, st', evs', obs, eqs, γ, w, h, heq, hl, hv, ho, hR => by
    unfold run at h
    split at h
    · simp only [Option.some.injEq, Prod.mk.injEq] at h
      obtain ⟨⟨rfl, rfl, rfl⟩, rfl⟩ := h
      exact WpF.done (hR γ w _ (fun _ _ => rfl) hl (Sub.refl _) (.inl rfl))
    · exact WpF.step (fun _ _ => step_skip) (run_wp hm n _ st evs h heq hl hv ho hR)
    · exact WpF.step (fun _ _ => step_label) (run_wp hm n _ st evs h heq hl hv ho hR)
    · exact WpF.step (fun _ _ => step_seq) (run_wp hm n _ st evs h heq hl hv ho hR)
    · split at h
      · rename_i t hx
        exact WpF.step (fun _ _ => step_cond (t := t) (by rw [ev_den γ, hx]; rfl)) (run_wp hm n _ st evs h heq hl hv ho hR)
      · cases h
    · exact WpF.step (fun _ _ => step_block) (run_wp hm n _ st evs h heq hl hv ho hR)
    · exact WpF.step (fun _ _ => step_loop) (run_wp hm n _ st evs h heq hl hv ho hR)
    · exact WpF.step (fun _ _ => step_scope) (run_wp hm n _ st evs h heq hl hv ho hR)
    · split at h
      · rename_i k' hk
        exact WpF.step (fun _ _ => step_exit hk) (run_wp hm n _ st evs h heq hl hv ho hR)
      · cases h
    · simp only [Option.some.injEq, Prod.mk.injEq] at h
      obtain ⟨⟨rfl, rfl, rfl⟩, rfl⟩ := h
      exact WpF.ret (hR γ w _ (fun _ _ => rfl) hl (Sub.refl _) (.inr rfl))
    · rename_i id ops k
      split at h
      · rename_i st1 evs1 ob1 hs
        · obtain ⟨ob2, hr, rfl⟩ := cons1_some h
          have ho1 : ∀ q ∈ ob1, q.holds := fun q hq => ho q (List.mem_append_left _ hq)
          have ho2 : ∀ q ∈ ob2, q.holds := fun q hq => ho q (List.mem_append_right _ hq)
          obtain ⟨hv1, hle⟩ := seqOps_tail (Ext := (w0, bs)) _ st evs hs hv
          refine WpF.code (wp_region ?_)
          obtain ⟨_, _, h3⟩ := seqOps_wp (Q := NormalThen P R k) _ st evs hs hl hv ho1
          exact h3 fun γ' w' hag hl' => run_wp hm n k st1 evs1 hr heq hl' hv1 ho2 (fun γ'' w'' e hag' hl'' hs he => hR γ'' w'' e (fun i hi => (hag i hi).trans (hag' i (hle i hi))) hl'' (hle.trans hs) he)
      · cases h
    · rename_i id ops k
      split at h
      · rename_i T B L ds tr r
        split at h
        · rename_i hc
          obtain ⟨hc, hlen, hall⟩ := hc
          split at h
          · rename_i st1 evs1 ob1 q1 hs
            · obtain ⟨q2, hh, rfl⟩ := cons2_some h
              obtain ⟨ob2, hr, rfl⟩ := cons1_some hh
              have heq1 : ∀ p ∈ q1, p.1 = p.2 := fun p hp => heq p (List.mem_append_left _ hp)
              have heq2 : ∀ p ∈ q2, p.1 = p.2 := fun p hp => heq p (List.mem_append_right _ hp)
              have ho1 : ∀ q ∈ ob1, q.holds := fun q hq => ho q (List.mem_append_left _ hq)
              have ho2 : ∀ q ∈ ob2, q.holds := fun q hq => ho q (List.mem_append_right _ hq)
              obtain ⟨hv1, hle⟩ := runSched_tail (Ext := (w0, bs)) tr _ true st r hs hv.2
              unfold tabOk at hc
              rw [Bool.and_eq_true, beq_iff_eq] at hc
              obtain ⟨hT, hB⟩ := hc
              have hLi : LInv st.hp L st := by
                intro q hq
                have h1 := List.all_eq_true.1 hall q hq
                split at h1
                · rename_i b hb
                  split at h1
                  · rename_i c hc
                    exact ⟨b, b, c, hb, hc, hb, hc⟩
                  · cases h1
                · cases h1
              refine WpF.code (start_ (S := SL γ st.hp L w0 bs) (ds := ds) (n := ops.size) (List.replicate ops.size false).toArray hm rfl (by apply Array.ext'; simp) (SL_of hl.drew hLi (fun _ _ => rfl) hl.sch) fun _ => ?_)
              exact runSched_wp hT hB hl.sch (fun _ _ _ h => h) tr _ true st r ops.size hs heq1 hl.drew hv.2 ho1 (fun _ _ => rfl) (Sub.refl _) (fun _ => hLi) hlen fun γ' w' hag hl' =>
                run_wp hm n k st1 evs1 hr heq2 hl' hv1 ho2 (fun γ'' w'' e hag' hl'' hs he => hR γ'' w'' e (fun i hi => (hag i hi).trans (hag' i (hle i hi))) hl'' (hle.trans hs) he)
          · cases h
        · cases h
      · cases h
    · exact WpF.step (fun _ _ => step_inBlock) (run_wp hm n _ st evs h heq hl hv ho hR)
    · exact WpF.step (fun _ _ => step_inScope) (run_wp hm n _ st evs h heq hl hv ho hR)
    · exact WpF.step (fun _ _ => step_inLoop) (run_wp hm n _ st evs h heq hl hv ho hR)
    · cases h

/-! ### a call -/
def res1 (P : Program) (st : St) : ResultVar → Option AV
  | .tmp t => match ev st.fr (.tmp t) with
    | .av a => some a
    | .tu _ => none
  | .cell p t => match ev st.fr (.tmp p) with
    | .av (.one (.p i off)) => match getB st.hp i with
      | some b => loadC P t b.cs off
      | none => none
    | _ => none
def resL (P : Program) (st : St) : List ResultVar → Option (List AV)
  | [] => some []
  | r :: l => match res1 P st r with
    | some a => match resL P st l with
      | some as => some (a :: as)
      | none => none
    | none => none
def resF (P : Program) (fn : Func) (st : St) : Option FV := match resL P st fn.results.toList with
  | some [a] => some (.av a)
  | some l => some (.tu l)
  | none => none
def resOne (tmps : Array Value) : ResultVar → Sem Value
  | .tmp t => pure (tmps.getD t undef)
  | .cell a t => do loadVar t (← asAddr (tmps.getD a undef))
theorem results_eq (fn : Func) (tmps : Array Value) : results fn tmps = (do let vs ← fn.results.mapM (resOne tmps); pure (if h : vs.size = 1 then vs[0] else .tuple vs)) := by
  unfold results
  congr 1
section
variable {P : Program} {γ : Nat → Nat × Nat} {st : St} {w0 w : World} {bs : List Nat}
theorem res1_run (hl : Loc γ st w0 bs w) {r : ResultVar} {a : AV} (h : res1 P st r = some a) : (resOne (act γ st.fr).tmps r).run P w = .ok (a.den γ) w ∧ a.sc (Dom st.hp) := by
  unfold res1 at h
  split at h
  · rename_i t
    split at h
    · rename_i y hy
      obtain rfl := Option.some.inj h
      have e : (act γ st.fr).tmps.getD t undef = y.den γ := by
        have := ev_den γ st.fr (.tmp t)
        rw [hy] at this
        exact this
      refine ⟨by simp [resOne, e], ?_⟩
      have := ev_sc hl.scf (.tmp t)
      rw [hy] at this
      exact this
    · cases h
  · rename_i p t
    split at h
    · rename_i i off hp
      split at h
      · rename_i b hb
        have e : (act γ st.fr).tmps.getD p undef = .pointer (some ⟨(γ i).1, off, none⟩) := by
          have := ev_den γ st.fr (.tmp p)
          rw [hp] at this
          exact this
        have e1 := loadC_run (γ := γ) (g := (γ i).1) (w := w) h (fun j c hc _ _ => hl.cell hb hc)
        simp only [Instr.loadAt, Instr.sureAddr, Sem.run_bind, Sem.run_pure, Result.andThen_ok] at e1
        exact ⟨by simp [resOne, e, asAddr, e1], loadC_sc (hl.sch i b hb) h⟩
      · cases h
    · cases h
theorem resL_run (hl : Loc γ st w0 bs w) : ∀ {l : List ResultVar} {as : List AV}, resL P st l = some as → (l.mapM (resOne (act γ st.fr).tmps)).run P w = .ok (as.map (AV.den γ)) w ∧ ∀ a ∈ as, AV.sc (Dom st.hp) a
  | [], as, h => by
    obtain rfl := Option.some.inj h
    exact ⟨rfl, by simp⟩
  | r :: l, as, h => by
    unfold resL at h
    split at h
    · rename_i a ha
      split at h
      · rename_i as' hl'
        obtain rfl := Option.some.inj h
        obtain ⟨h1, h2⟩ := res1_run hl ha
        obtain ⟨h3, h4⟩ := resL_run hl hl'
        refine ⟨by simp [List.mapM_cons, h1, h3], fun x hx => ?_⟩
        rcases List.mem_cons.1 hx with rfl | hx
        · exact h2
        · exact h4 x hx
      · cases h
    · cases h
theorem resF_run (hl : Loc γ st w0 bs w) {fn : Func} {x : FV} (h : resF P fn st = some x) : (results fn (act γ st.fr).tmps).run P w = .ok (x.den γ) w ∧ x.sc (Dom st.hp) := by
  unfold resF at h
  have key : ∀ as : List AV, resL P st fn.results.toList = some as → (fn.results.mapM (resOne (act γ st.fr).tmps)).run P w = .ok (as.map (AV.den γ)).toArray w := by
    intro as ha
    have h1 := (resL_run hl ha).1
    rw [Array.mapM_eq_mapM_toList]
    simp [h1]
  split at h
  · rename_i a ha
    obtain rfl := Option.some.inj h
    refine ⟨?_, (resL_run hl ha).2 a (by simp)⟩
    rw [results_eq, Sem.run_bind, key _ ha]
    rfl
  · rename_i l hne ha
    obtain rfl := Option.some.inj h
    refine ⟨?_, (resL_run hl ha).2⟩
    rw [results_eq, Sem.run_bind, key _ ha, Result.andThen_ok, dif_neg]
    · rfl
    · intro h1
      rw [List.size_toArray, List.length_map] at h1
      obtain ⟨a, rfl⟩ := List.length_eq_one_iff.1 h1
      exact hne a rfl
  · cases h
end
def pvalF : FV → Option Value
  | .tu l => match pvals (l.map FV.av) with
    | some vs => some (.tuple vs.toArray)
    | none => none
  | x => pval x
theorem pvalF_den {x : FV} {v : Value} (h : pvalF x = some v) (γ : Nat → Nat × Nat) : x.den γ = v := by
  unfold pvalF at h
  split at h
  · rename_i l
    split at h
    · rename_i vs hvs
      obtain rfl := Option.some.inj h
      have := pvals_den γ hvs
      rw [List.map_map] at this
      show Value.tuple _ = _
      rw [← this]
      rfl
    · cases h
  · exact pval_den h γ
def st0 (fn : Func) (args : List Value) : St := ⟨args.map pv ++ List.replicate (fn.ntmps - args.length) (pv undef), []⟩
/-- What the orders leave, beside what the first one leaves. -/
def sames (P : Program) (fn : Func) (fuel : Nat) (args : List Value) (evs : List Ev) : List (Res × Res) := match fn.body with
  | some c => match run P fuel [.code c] (st0 fn args) evs with
    | some (_, q) => q
    | none => []
  | none => []
def check (P : Program) (fn : Func) (fuel : Nat) (args : List Value) (evs : List Ev) : Option (Value × List Ob) := match fn.body with
  | some c => match run P fuel [.code c] (st0 fn args) evs with
    | some ((st, _, obs), _) => match resF P fn st with
      | some x => match pvalF x with
        | some v => some (v, obs)
        | none => none
      | none => none
    | none => none
  | none => none
theorem calls_of_WpF {P : Program} {f : FuncId} {fn : Func} {c : Code} {args : Array Value} {w : World} {R : Ending → World → Prop} (hf : P.funcs[f]? = some fn) (hb : fn.body = some c)
    (h : WpF P (bodyPost P fn R) [.code c] { tmps := args ++ Array.replicate (fn.ntmps - args.size) undef, defers := [] } w) : Calls P f args w R := by
  intro cs
  let b : Frame := { (default : Frame) with fn := f, kind := .normal }
  have henter : Frame.enter P f args .normal = b.at { tmps := args ++ Array.replicate (fn.ntmps - args.size) undef, defers := [] } [.code c] := by
    simp [Frame.enter, Frame.at, hf, hb, b]
  obtain ⟨e, a', w', hq, harr⟩ := h b cs
  rw [← henter] at harr
  cases e with
  | normal =>
    obtain ⟨hd, v, hr, hR⟩ := hq
    exact ⟨.returned v, w', _, hR, Steps.trans harr (.one step_end), rfl, rfl, hd, rfl, fn, hf, hr⟩
  | ret =>
    obtain ⟨hd, v, hr, hR⟩ := hq
    obtain ⟨todo, hs⟩ := harr
    exact ⟨.returned v, w', _, hR, hs, rfl, rfl, hd, rfl, fn, hf, hr⟩
  | panic chain =>
    obtain ⟨hd, hR⟩ := hq
    obtain ⟨todo, hs⟩ := harr
    exact ⟨.panicked chain, w', _, hR, hs, rfl, rfl, hd, fn, hf⟩
  | exit id => exact hq.elim
  | goto l => exact hq.elim
  | outgrown => exact ⟨.outgrown, w', b, hq, harr.resolve_left (by simp [b]), rfl, trivial⟩
/-- **THE CALL**: along the way that the events tell it returns x, and turns nothing that was there. -/
theorem calls_of_check {P : Program} {f : FuncId} {fn : Func} (hm : P.follows .mixedOrders = true) (hf : P.funcs[f]? = some fn) (fuel : Nat) (args : List Value) (evs : List Ev) {x : Value} {w : World}
    (h : check P fn fuel args evs = some (x, obsOf evs)) (h2 : (sames P fn fuel args evs).map Prod.fst = (sames P fn fuel args evs).map Prod.snd) (hv : Valid P (w, []) evs) : Calls P f args.toArray w fun e w' => e = .returned x ∧ Below w.heap.size w w' := by
  unfold check at h
  split at h
  · rename_i c hb
    split at h
    · rename_i st evs' obs q hr
      have heq : ∀ p ∈ q, p.1 = p.2 := by
        unfold sames at h2
        rw [hb] at h2
        simp only [hr] at h2
        intro p hp
        obtain ⟨i, hi⟩ := List.getElem?_of_mem hp
        have h3 := congrArg (fun l => l[i]?) h2
        simp only [List.getElem?_map, hi, Option.map_some, Option.some.injEq] at h3
        exact h3
      split at h
      · rename_i y hy
        split at h
        · rename_i v hyv
          simp only [Option.some.injEq, Prod.mk.injEq] at h
          obtain ⟨rfl, rfl⟩ := h
          refine calls_of_WpF hf hb ?_
          have hl0 : Loc (fun _ => (0, 0)) (st0 fn args) w [] w := ⟨Kept.refl _ _, fun i b h => by simp [st0, getB, getE] at h, fun i ⟨b, h⟩ => by simp [st0, getE] at h, fun i j ⟨b, h⟩ => by simp [st0, getE] at h, fun z hz => by
            unfold st0 at hz
            rcases List.mem_append.1 hz with hz | hz
            · obtain ⟨q, _, rfl⟩ := List.mem_map.1 hz; trivial
            · obtain rfl := (List.mem_replicate.1 hz).2; trivial, fun i b h => by simp [st0, getB, getE] at h, fun i cs ty sz h => by simp [st0, getE] at h, fun i cs ty sz h => by simp [st0, getE] at h⟩
          have ha : act (fun _ => (0, 0)) (st0 fn args).fr = { tmps := args.toArray ++ Array.replicate (fn.ntmps - args.toArray.size) undef, defers := [] } := by
            unfold act st0
            congr 1
            apply Array.ext'
            simp [Function.comp_def, FV.den, AV.den, C.den]
          rw [← ha]
          refine run_wp hm fuel _ _ evs hr heq hl0 hv (obsOf_hold evs) fun γ' w' e _ hl' _ he => ?_
          have hres := (resF_run hl' hy).1
          rw [pvalF_den hyv] at hres
          rcases he with rfl | rfl <;> exact ⟨rfl, v, hres, rfl, hl'.kept.below⟩
        · cases h
      · cases h
    · cases h
  · cases h
def stP (fn : Func) (args : List FV) (hp : Hp) : St := ⟨args ++ List.replicate (fn.ntmps - args.length) (pv undef), hp⟩
def samesP (P : Program) (fn : Func) (fuel : Nat) (args : List FV) (hp : Hp) (evs : List Ev) : List (Res × Res) := match fn.body with
  | some c => match run P fuel [.code c] (stP fn args hp) evs with
    | some (_, q) => q
    | none => []
  | none => []
def checkP (P : Program) (fn : Func) (fuel : Nat) (args : List FV) (hp : Hp) (evs : List Ev) : Option ((FV × Hp) × List Ob) := match fn.body with
  | some c => match run P fuel [.code c] (stP fn args hp) evs with
    | some ((st, _, obs), _) => match resF P fn st with
      | some x => some ((x, st.hp), obs)
      | none => none
    | none => none
  | none => none
/-- **THE CALL THAT IS HANDED OWN BLOCKS**, or leaves some. -/
theorem pcalls_of_check {P : Program} {f : FuncId} {fn : Func} (hm : P.follows .mixedOrders = true) (hf : P.funcs[f]? = some fn) (fuel : Nat) (args : List FV) (hp : Hp) (evs : List Ev) (ups : List (Nat × Ent)) {x : FV} {E : World × List Nat}
    (h : checkP P fn fuel args hp evs = some ((x, upsB hp ups), obsOf evs)) (h2 : (samesP P fn fuel args hp evs).map Prod.fst = (samesP P fn fuel args hp evs).map Prod.snd) (hv : Valid P E evs) : PCalls P f args hp (upsB hp ups) x E := by
  intro γ w hl
  unfold checkP at h
  split at h
  · rename_i c hb
    split at h
    · rename_i st evs' obs q hr
      have heq : ∀ p ∈ q, p.1 = p.2 := by
        unfold samesP at h2
        rw [hb] at h2
        simp only [hr] at h2
        intro p hp
        obtain ⟨i, hi⟩ := List.getElem?_of_mem hp
        have h3 := congrArg (fun l => l[i]?) h2
        simp only [List.getElem?_map, hi, Option.map_some, Option.some.injEq] at h3
        exact h3
      split at h
      · rename_i y hy
        simp only [Option.some.injEq, Prod.mk.injEq] at h
        obtain ⟨⟨rfl, hhp⟩, rfl⟩ := h
        refine calls_of_WpF hf hb ?_
        have hl0 : Loc γ (stP fn args hp) E.1 E.2 w := ⟨hl.kept, hl.blk, hl.own, hl.inj, fun z hz => by
          unfold stP at hz
          rcases List.mem_append.1 hz with hz | hz
          · exact hl.scf z hz
          · obtain rfl := (List.mem_replicate.1 hz).2; trivial, hl.sch, hl.row, hl.scr⟩
        have ha : act γ (stP fn args hp).fr = { tmps := (args.map (FV.den γ)).toArray ++ Array.replicate (fn.ntmps - (args.map (FV.den γ)).toArray.size) undef, defers := [] } := by
          unfold act stP
          congr 1
          apply Array.ext'
          simp [FV.den, AV.den, C.den]
        rw [← ha]
        refine run_wp hm fuel _ _ evs hr heq hl0 hv (obsOf_hold evs) fun γ' w' e hag hl' _ he => ?_
        have hres := resF_run hl' hy
        have hfin : Loc γ' ⟨[y], upsB hp ups⟩ E.1 E.2 w' := by
          rw [← hhp]
          exact ⟨hl'.kept, hl'.blk, hl'.own, hl'.inj, fun z hz => by obtain rfl := List.mem_singleton.1 hz; exact hres.2, hl'.sch, hl'.row, hl'.scr⟩
        rcases he with rfl | rfl <;> exact ⟨rfl, _, hres.1, γ', hag, rfl, hfin⟩
      · cases h
    · cases h
  · cases h
theorem ent {P : Program} {f : FuncId} {fn : Func} (hf : P.funcs[f]? = some fn) (hname : (fn.name == "runtime.NumGoroutine") = false) (hb : fn.body.isSome = true) : Enters P f := fun as w => enters_ hf hname hb as w
theorem ret_eq {P : Program} {f : FuncId} {as : Array Value} {w : World} {v v' : Value} (e : v = v') (h : Calls P f as w fun e w' => e = .returned v ∧ Below w.heap.size w w') : Calls P f as w fun e w' => e = .returned v' ∧ Below w.heap.size w w' := e ▸ h
/-- A sum of strings, their sizes told. -/
theorem orc_add {P : Program} {Ext : World × List Nat} {d : Tmp} {t t' : TypeId} {a b : ByteArray} {n m : Nat} (ha : a.size ≤ n) (hb : b.size ≤ m) (h : n + m ≤ 9223372036854775807) : Ev.ok P Ext (.orc d (.binOp .add t (.const (.string a)) (.const (.string b)) t') (.string (a ++ b))) := by
  intro o w hop _
  have h1 : ¬ ((a.size + b.size : Nat) : Int) > IntKind.i64.max := by
    show ¬ ((a.size + b.size : Nat) : Int) > 9223372036854775807
    omega
  have h2 : (eqGuard .add t (.const (.string a)) (.const (.string b)) (.string a) (.string b)).run P w = .ok () w := rfl
  have h3 : (binOp .add t (.string a) (.string b)).run P w = .ok (.string (a ++ b)) w := by
    show (Op.stringOp .add a b).run P w = _
    simp only [Op.stringOp]
    rw [if_neg h1]
    rfl
  unfold execOp
  simp only [hop, constEval, Sem.run_bind, h2, h3, Result.andThen_ok]
  rfl
theorem sz_add {a b : ByteArray} {n m : Nat} (ha : a.size ≤ n) (hb : b.size ≤ m) : (a ++ b).size ≤ n + m := by
  rw [ByteArray.size_append]
  omega
/-- A comparison of structs. -/
theorem orc_eql {P : Program} {Ext : World × List Nat} {d : Tmp} {t t' : TypeId} {x y : Array Value} {r : Bool} (hm : P.eqGuardType P.depth t = false) (he : ∀ w, (Op.equalIn 10000 t (.agg x) (.agg y)).run P w = .ok r w) : Ev.ok P Ext (.orc d (.binOp .eql t (.const (.agg x)) (.const (.agg y)) t') (.bool r)) := by
  intro o w hop _
  unfold execOp
  simp only [hop, constEval, Sem.run_bind, run_eqGuard_agg (P := P) w .eql t _ _ x y hm, Result.andThen_ok, run_eql_struct, he w]
  rfl
theorem orc_neq {P : Program} {Ext : World × List Nat} {d : Tmp} {t t' : TypeId} {x y : Array Value} {r : Bool} (hm : P.eqGuardType P.depth t = false) (he : ∀ w, (Op.equalIn 10000 t (.agg x) (.agg y)).run P w = .ok r w) : Ev.ok P Ext (.orc d (.binOp .neq t (.const (.agg x)) (.const (.agg y)) t') (.bool (!r))) := by
  intro o w hop _
  unfold execOp
  simp only [hop, constEval, Sem.run_bind, run_eqGuard_agg (P := P) w .neq t _ _ x y hm, Result.andThen_ok, run_neq_struct, he w]
  rfl
theorem orc_eq {P : Program} {Ext : World × List Nat} {d : Tmp} {op : Op} {v v' : Value} (e : v = v') (h : Ev.ok P Ext (.orc d op v)) : Ev.ok P Ext (.orc d op v') := e ▸ h
theorem wr64 {a : Int} (h : -9223372036854775808 ≤ a ∧ a ≤ 9223372036854775807) : IntKind.i64.wrap a = a := by rw [IntKind.wrap_i64]; omega
theorem wr32 {a : Int} : IntKind.u32.wrap a = a % 4294967296 := by simp [IntKind.wrap, IntKind.bits, IntKind.signed]
theorem beq_bytes (a b : ByteArray) : (a.toList == b.toList) = decide (a = b) := by
  rw [ByteArray.toList_eq, ByteArray.toList_eq]
  obtain ⟨⟨x⟩⟩ := a
  obtain ⟨⟨y⟩⟩ := b
  by_cases h : x = y
  · subst h; simp
  · have : ¬ ((⟨⟨x⟩⟩ : ByteArray) = ⟨⟨y⟩⟩) := fun e => h (by injection e with e; injection e)
    rw [decide_eq_false this, beq_eq_false_iff_ne]
    exact h
/-- A comparison of strings. -/
theorem orc_seql {P : Program} {Ext : World × List Nat} {d : Tmp} {t t' : TypeId} {a b : ByteArray} : Ev.ok P Ext (.orc d (.binOp .eql t (.const (.string a)) (.const (.string b)) t') (.bool (decide (a = b)))) := by
  intro o w hop _
  have h2 : (eqGuard .eql t (.const (.string a)) (.const (.string b)) (.string a) (.string b)).run P w = .ok () w := rfl
  have h3 : (binOp .eql t (.string a) (.string b)).run P w = .ok (.bool (decide (a = b))) w := by
    rw [← beq_bytes]
    rfl
  unfold execOp
  simp only [hop, constEval, Sem.run_bind, h2, h3, Result.andThen_ok]
  rfl
theorem orc_sneq {P : Program} {Ext : World × List Nat} {d : Tmp} {t t' : TypeId} {a b : ByteArray} : Ev.ok P Ext (.orc d (.binOp .neq t (.const (.string a)) (.const (.string b)) t') (.bool (!decide (a = b)))) := by
  intro o w hop _
  have h2 : (eqGuard .neq t (.const (.string a)) (.const (.string b)) (.string a) (.string b)).run P w = .ok () w := rfl
  have h3 : (binOp .neq t (.string a) (.string b)).run P w = .ok (.bool (!decide (a = b))) w := by
    rw [← beq_bytes]
    rfl
  unfold execOp
  simp only [hop, constEval, Sem.run_bind, h2, h3, Result.andThen_ok]
  rfl
end Go.Proofs.Ytfgpcaadgfgkcaa.Exec
