/- Plain laws of a side behind a segment: program and reference come to the same; what rises, what stays. No conditions but those named. -/
import Derived.Test.YtfgpcaadgfgkcaaWin
namespace Go.Proofs.Ytfgpcaadgfgkcaa.WinLem
set_option linter.unusedSimpArgs false
open Go.RowKit Go.Proofs.YtfgpcaadgfgkcaaW.PrintWords Go.Proofs.Ytfgpcaadgfgkcaa.SeqnLem Go.Proofs.Ytfgpcaadgfgkcaa.Edge Go.Proofs.Ytfgpcaadgfgkcaa.Exec Go.Proofs.Ytfgpcaadgfgkcaa.Side Go.Proofs.Ytfgpcaadgfgkcaa.Dig Go.Proofs.Ytfgpcaadgfgkcaa.Win
theorem bits_ne2 (f : Int) : (Go.bits .and .i64 f 2 != 0) = decide (Go.bits .and .i64 f 2 > 0) := by
  have := and2 f
  rw [Bool.eq_iff_iff, bne_iff_ne, decide_eq_true_eq]
  omega
theorem bits_ne16 (f : Int) : (Go.bits .and .i64 f 16 != 0) = decide (Go.bits .and .i64 f 16 > 0) := by
  have := and16 f
  rw [Bool.eq_iff_iff, bne_iff_ne, decide_eq_true_eq]
  omega
theorem bits_eq16 (f : Int) : (Go.bits .and .i64 f 16 == 0) = !decide (Go.bits .and .i64 f 16 > 0) := by rw [← bits_ne16]; simp [bne]
/-- Does it say something of what has come? -/
def ackB (f : Int) : Bool := decide (Go.bits .and .i64 f 16 > 0)
theorem bit16 (f : Int) : (Go.bits .and .i64 f 16 == 0) = !ackB f := bits_eq16 f
theorem bit16' (f : Int) : (Go.bits .and .i64 f 16 != 0) = ackB f := bits_ne16 f
theorem later_self (a : Int) : later a a = a := by unfold later; split <;> rfl
theorem G_self (a : Int) : G a a = 0 := by unfold G; split <;> omega
theorem later_twice (a b : Int) : later (later a b) b = later a b := by
  unfold later
  by_cases h : 0 < G a b
  · rw [if_pos h]; split <;> rfl
  · rw [if_neg h, if_neg h]
theorem later_up (a b : Int) : 0 ≤ G a (later a b) := by
  unfold later
  by_cases h : 0 < G a b
  · rw [if_pos h]; omega
  · rw [if_neg h, G_self]; omega
theorem mx_l (a b : Int) : a ≤ mx a b := by unfold mx; split <;> omega
theorem mx_r (a b : Int) : b ≤ mx a b := by unfold mx; split <;> omega
theorem mx_twice (a b : Int) : mx (mx (mx (mx a 1) b) 1) b = mx (mx a 1) b := by unfold mx; repeat' split <;> omega
/-- The sides behind a segment, in one form. -/
theorem note_eq (s r : Sd) (g : Sg) : noteF s r g =
    ({ s with fin := later s.fin (EndS g), win := mx (mx s.win 1) (Shift g.win s.scale (decide (Syn g.flags))), has := s.has || ackB g.flags,
              ack := if ackB g.flags = true then (if s.has = true then later s.ack g.ack else g.ack) else s.ack },
     { r with max := if ackB g.flags = true ∧ r.on = true then later r.max (Grant g s.scale) else r.max }) := by
  obtain ⟨s1, s2, s3, s4, s5, s6, s7⟩ := s
  obtain ⟨r1, r2, r3, r4, r5, r6, r7⟩ := r
  unfold noteF
  rw [bit16]
  cases h1 : ackB g.flags <;> cases s5 <;> cases r1 <;> simp [later_self]
theorem rnote_eq (s r : Sd) (g : Sg) : rnoteF s r g = noteF s r g := by
  obtain ⟨s1, s2, s3, s4, s5, s6, s7⟩ := s
  obtain ⟨r1, r2, r3, r4, r5, r6, r7⟩ := r
  rw [note_eq]
  unfold rnoteF
  rw [bit16, bits_ne2]
  cases h1 : ackB g.flags <;> cases s5 <;> cases r1 <;> simp
theorem begin_eq (g : Sg) : beginF g = ⟨true, EndS g, EndS g, if ackB g.flags = true then g.ack else 0, ackB g.flags, mx 1 (Shift g.win 0 true), g.scale⟩ := by
  unfold beginF
  change (bif ackB g.flags then _ else _) = _
  cases h1 : ackB g.flags <;> simp
theorem rbegin_eq (g : Sg) : rbeginF g = beginF g := by
  rw [begin_eq]
  unfold rbeginF
  rw [bit16']
  cases h1 : ackB g.flags <;> simp
theorem rscales_eq (s r : Sd) : rscalesF s r = scalesF s r := rfl
theorem show_eq (s : Sd) : rshowF s = showF s := by
  unfold rshowF showF
  have : Sd.eq s { s with on := true } = s.on := by simp [Sd.eq]
  rw [this]
theorem note_n {s r : Sd} {g : Sg} (hs : s.Wf) (hr : r.Wf) (hg : g.Wf) :
    (0 ≤ (noteF s r g).1.fin ∧ (noteF s r g).1.fin ≤ 4294967295) ∧ (0 ≤ (noteF s r g).1.max ∧ (noteF s r g).1.max ≤ 4294967295) ∧ (0 ≤ (noteF s r g).1.ack ∧ (noteF s r g).1.ack ≤ 4294967295) ∧
    (0 ≤ (noteF s r g).2.fin ∧ (noteF s r g).2.fin ≤ 4294967295) ∧ (0 ≤ (noteF s r g).2.max ∧ (noteF s r g).2.max ≤ 4294967295) ∧ (0 ≤ (noteF s r g).2.ack ∧ (noteF s r g).2.ack ≤ 4294967295) := by
  rw [note_eq]
  refine ⟨later_bd hs.fin (EndS_bd g), hs.max, ?_, hr.fin, ?_, hr.ack⟩
  · simp only
    split
    · split
      · exact later_bd hs.ack hg.ack
      · exact hg.ack
    · exact hs.ack
  · simp only
    split
    · exact later_bd hr.max (Grant_bd g s.scale)
    · exact hr.max
theorem note_wf {s r : Sd} {g : Sg} (hs : s.Wf) (hr : r.Wf) (hg : g.Wf) (hsw : s.win ≤ 1125899906842624) : (noteF s r g).1.Wf ∧ (noteF s r g).2.Wf := by
  obtain ⟨n1, n2, n3, n4, n5, n6⟩ := note_n hs hr hg
  refine ⟨⟨n1, n2, n3, ?_, by rw [note_eq]; exact hs.scale⟩, ⟨n4, n5, n6, by rw [note_eq]; exact hr.win, by rw [note_eq]; exact hr.scale⟩⟩
  rw [note_eq]
  have h1 := Shift_bd g.win s.scale (decide (Syn g.flags))
  have h2 := hs.win
  simp only
  unfold mx
  repeat' split <;> omega
section
variable (s r : Sd) (g : Sg)
theorem rise_fin : decide (0 ≤ G s.fin (noteF s r g).1.fin) = true := by rw [note_eq]; exact decide_eq_true (later_up _ _)
theorem rise_max : decide (0 ≤ G r.max (noteF s r g).2.max) = true := by
  rw [note_eq]
  refine decide_eq_true ?_
  simp only
  split
  · exact later_up _ _
  · rw [G_self]; omega
theorem rise_ack (h : s.has = true) : decide (0 ≤ G s.ack (noteF s r g).1.ack) = true := by
  rw [note_eq]
  refine decide_eq_true ?_
  simp only [h, if_true]
  split
  · exact later_up _ _
  · rw [G_self]; omega
theorem rise_has (h : s.has = true) : (noteF s r g).1.has = true := by rw [note_eq]; simp [h]
theorem rise_win : decide ((noteF s r g).1.win ≥ s.win) = true := by rw [note_eq]; exact decide_eq_true (Int.le_trans (mx_l _ _) (mx_l _ _))
theorem rise_win1 : decide ((noteF s r g).1.win ≥ 1) = true := by rw [note_eq]; exact decide_eq_true (Int.le_trans (mx_r _ _) (mx_l _ _))
theorem stays : (((noteF s r g).1.max == s.max) = true ∧ ((noteF s r g).2.fin == r.fin) = true ∧ ((noteF s r g).2.ack == r.ack) = true ∧ ((noteF s r g).2.win == r.win) = true ∧ ((noteF s r g).1.on == s.on) = true ∧ ((noteF s r g).2.on == r.on) = true) := by
  rw [note_eq]; simp
theorem note_twice : noteF (noteF s r g).1 (noteF s r g).2 g = noteF s r g := by
  rw [note_eq s r g]
  rw [note_eq]
  obtain ⟨s1, s2, s3, s4, s5, s6, s7⟩ := s
  obtain ⟨r1, r2, r3, r4, r5, r6, r7⟩ := r
  simp only [later_twice, mx_twice]
  cases h : ackB g.flags <;> cases s5 <;> cases r1 <;> simp [later_self, later_twice]
end
/-! ### numbers farther by as much -/
theorem G_shift (a b x : Int) : G ((a + x) % 4294967296) ((b + x) % 4294967296) = G a b := by
  unfold G
  rw [show ((b + x) % 4294967296 - (a + x) % 4294967296) % 4294967296 = (b - a) % 4294967296 by omega]
theorem later_shift (a b x : Int) : later ((a + x) % 4294967296) ((b + x) % 4294967296) = (later a b + x) % 4294967296 := by
  unfold later
  rw [G_shift]
  split <;> rfl
theorem End_shift (g : Sg) (x y : Int) : EndS { g with seq := (g.seq + x) % 4294967296, ack := y } = (EndS g + x) % 4294967296 := by
  have : Len { g with seq := (g.seq + x) % 4294967296, ack := y } = Len g := rfl
  unfold EndS
  rw [this]
  show ((g.seq + x) % 4294967296 + Len g) % 4294967296 = _
  omega
theorem Grant_shift (g : Sg) (hb : g.blocks = []) (x y n : Int) : Grant { g with seq := x, ack := (g.ack + y) % 4294967296 } n = (Grant g n + y) % 4294967296 := by
  have h1 : Last g = g.ack := by unfold Last; rw [hb]; rfl
  have h2 : Last { g with seq := x, ack := (g.ack + y) % 4294967296 } = (g.ack + y) % 4294967296 := by unfold Last; simp only [hb]; rfl
  unfold Grant
  rw [h1, h2]
  show ((g.ack + y) % 4294967296 + Shift g.win n (decide (Syn g.flags))) % 4294967296 = _
  omega
theorem note_shift (s r : Sd) (g : Sg) (hb : g.blocks = []) (x y : Int) :
    noteF { s with fin := IntKind.u32.wrap (s.fin + x), max := IntKind.u32.wrap (s.max + x), ack := IntKind.u32.wrap (s.ack + y) } { r with fin := IntKind.u32.wrap (r.fin + y), max := IntKind.u32.wrap (r.max + y), ack := IntKind.u32.wrap (r.ack + x) } { g with seq := IntKind.u32.wrap (g.seq + x), ack := IntKind.u32.wrap (g.ack + y) } =
    ({ (noteF s r g).1 with fin := IntKind.u32.wrap ((noteF s r g).1.fin + x), max := IntKind.u32.wrap ((noteF s r g).1.max + x), ack := IntKind.u32.wrap ((noteF s r g).1.ack + y) }, { (noteF s r g).2 with fin := IntKind.u32.wrap ((noteF s r g).2.fin + y), max := IntKind.u32.wrap ((noteF s r g).2.max + y), ack := IntKind.u32.wrap ((noteF s r g).2.ack + x) }) := by
  simp only [wr32]
  rw [note_eq, note_eq]
  simp only [End_shift, later_shift, Grant_shift g hb]
  cases h : ackB g.flags <;> cases h2 : s.has <;> cases h3 : r.on <;> simp [later_shift]
theorem begins_max (n : Int) (g h : Sg) (h7 : (Go.bits .and .i64 h.flags 16 == 0) = false) : (noteF { (beginF h) with scale := n } (beginF g) h).2.max = later (beginF g).max (Grant h n) := by
  rw [bit16] at h7
  have h8 : ackB h.flags = true := by simpa using h7
  rw [note_eq]
  simp [h8, begin_eq]
theorem begins_x {T S X : Int} (e : T = later S X) (h : (T == S) = false ∨ (!decide (0 < G S X)) = false) : (T == X) = true := by
  subst e
  unfold later at *
  by_cases q : 0 < G S X
  · rw [if_pos q]; simp
  · rw [if_neg q] at h
    rcases h with h | h
    · simp at h
    · simp [q] at h
theorem begins_same (n : Int) (g h : Sg) (h7 : (Go.bits .and .i64 h.flags 16 == 0) = true) : Sd.eq (noteF { (beginF h) with scale := n } (beginF g) h).2 (beginF g) = true := by
  rw [bit16] at h7
  have h8 : ackB h.flags = false := by simpa using h7
  rw [note_eq, Sd.eq_iff]
  simp [h8]
end Go.Proofs.Ytfgpcaadgfgkcaa.WinLem
