-- Written by a program of this work (wip/mkprint.py, wip/myprint.sh) out of the translation; not trusted: Lean checks it.
import Derived.Test.YtaemgicmbnmecaaPAllx0
import Derived.Test.YtaemgicmbnmecaaPAllx12
namespace Go.Proofs.Ytaemgicmbnmecaa.PAll
open Go.RowKit Go.Proofs.YtaemgicmbnmecaaW.PrintWords Go.Proofs.YtaemgicmbnmecaaW.PrintLast Go.Proofs.YtaemgicmbnmecaaW.PrintMore
attribute [local go_sem] max2_int min2_int max_two min_two max_three min_three max_four min_four   -- for this text's walks alone
set_option linter.unusedVariables false
set_option linter.unusedSimpArgs false

/-! ### phase_Parse: function 31 (by hand) -/
def phase_Parse.nm : Nat → ByteArray
  | 0 => (⟨#[110, 111, 110, 101]⟩ : ByteArray)
  | 1 => (⟨#[97, 115, 107, 101, 100]⟩ : ByteArray)
  | 2 => (⟨#[98, 111, 116, 104]⟩ : ByteArray)
  | 3 => (⟨#[97, 110, 115, 119, 101, 114, 101, 100]⟩ : ByteArray)
  | 4 => (⟨#[111, 112, 101, 110]⟩ : ByteArray)
  | 5 => (⟨#[100, 111, 110, 101, 49]⟩ : ByteArray)
  | 6 => (⟨#[100, 111, 110, 101, 50]⟩ : ByteArray)
  | 7 => (⟨#[100, 111, 110, 101]⟩ : ByteArray)
  | 8 => (⟨#[119, 97, 105, 116]⟩ : ByteArray)
  | 9 => (⟨#[99, 108, 111, 115, 101, 100]⟩ : ByteArray)
  | _ => ⟨#[]⟩
def phase_Parse.lp (s : ByteArray) : Nat → Nat → Int × Bool
  | 0, _ => (0, false)
  | k + 1, i => if phase_Parse.nm i = s then ((i : Int), true) else phase_Parse.lp s k (i + 1)
def phase_Parse.f (a0 : ByteArray) : Option (Int × Bool) := some (phase_Parse.lp a0 10 0)
theorem phase_Parse.ne {x y : ByteArray} (h : ¬ x = y) : (x.data.toList == y.toList) = false := by
  rw [beq_eq_false_iff_ne, ByteArray.toList_eq]
  intro e
  exact h (Go.WideShapes.bytes_inj e)
set_option maxHeartbeats 8000000 in
set_option maxRecDepth 100000 in
theorem phase_Parse.calls (a0 : ByteArray) (r1 : Int) (r2 : Bool) (w : World) (h : phase_Parse.f a0 = some (r1, r2)) :
    Calls Try.prog 31 #[.string a0] w fun e w' => e = .returned (.tuple #[.int .i64 r1, .bool r2]) ∧ Below w.heap.size w w' := by
  have i0 : ∀ w, (Instr.index 45 (.agg #[.string (⟨#[110, 111, 110, 101]⟩ : ByteArray), .string (⟨#[97, 115, 107, 101, 100]⟩ : ByteArray), .string (⟨#[98, 111, 116, 104]⟩ : ByteArray), .string (⟨#[97, 110, 115, 119, 101, 114, 101, 100]⟩ : ByteArray), .string (⟨#[111, 112, 101, 110]⟩ : ByteArray), .string (⟨#[100, 111, 110, 101, 49]⟩ : ByteArray), .string (⟨#[100, 111, 110, 101, 50]⟩ : ByteArray), .string (⟨#[100, 111, 110, 101]⟩ : ByteArray), .string (⟨#[119, 97, 105, 116]⟩ : ByteArray), .string (⟨#[99, 108, 111, 115, 101, 100]⟩ : ByteArray)]) (.int .i64 0)).run Try.prog w = .ok (.string (⟨#[110, 111, 110, 101]⟩ : ByteArray)) w := fun _ => by kernel_rfl
  have i1 : ∀ w, (Instr.index 45 (.agg #[.string (⟨#[110, 111, 110, 101]⟩ : ByteArray), .string (⟨#[97, 115, 107, 101, 100]⟩ : ByteArray), .string (⟨#[98, 111, 116, 104]⟩ : ByteArray), .string (⟨#[97, 110, 115, 119, 101, 114, 101, 100]⟩ : ByteArray), .string (⟨#[111, 112, 101, 110]⟩ : ByteArray), .string (⟨#[100, 111, 110, 101, 49]⟩ : ByteArray), .string (⟨#[100, 111, 110, 101, 50]⟩ : ByteArray), .string (⟨#[100, 111, 110, 101]⟩ : ByteArray), .string (⟨#[119, 97, 105, 116]⟩ : ByteArray), .string (⟨#[99, 108, 111, 115, 101, 100]⟩ : ByteArray)]) (.int .i64 1)).run Try.prog w = .ok (.string (⟨#[97, 115, 107, 101, 100]⟩ : ByteArray)) w := fun _ => by kernel_rfl
  have i2 : ∀ w, (Instr.index 45 (.agg #[.string (⟨#[110, 111, 110, 101]⟩ : ByteArray), .string (⟨#[97, 115, 107, 101, 100]⟩ : ByteArray), .string (⟨#[98, 111, 116, 104]⟩ : ByteArray), .string (⟨#[97, 110, 115, 119, 101, 114, 101, 100]⟩ : ByteArray), .string (⟨#[111, 112, 101, 110]⟩ : ByteArray), .string (⟨#[100, 111, 110, 101, 49]⟩ : ByteArray), .string (⟨#[100, 111, 110, 101, 50]⟩ : ByteArray), .string (⟨#[100, 111, 110, 101]⟩ : ByteArray), .string (⟨#[119, 97, 105, 116]⟩ : ByteArray), .string (⟨#[99, 108, 111, 115, 101, 100]⟩ : ByteArray)]) (.int .i64 2)).run Try.prog w = .ok (.string (⟨#[98, 111, 116, 104]⟩ : ByteArray)) w := fun _ => by kernel_rfl
  have i3 : ∀ w, (Instr.index 45 (.agg #[.string (⟨#[110, 111, 110, 101]⟩ : ByteArray), .string (⟨#[97, 115, 107, 101, 100]⟩ : ByteArray), .string (⟨#[98, 111, 116, 104]⟩ : ByteArray), .string (⟨#[97, 110, 115, 119, 101, 114, 101, 100]⟩ : ByteArray), .string (⟨#[111, 112, 101, 110]⟩ : ByteArray), .string (⟨#[100, 111, 110, 101, 49]⟩ : ByteArray), .string (⟨#[100, 111, 110, 101, 50]⟩ : ByteArray), .string (⟨#[100, 111, 110, 101]⟩ : ByteArray), .string (⟨#[119, 97, 105, 116]⟩ : ByteArray), .string (⟨#[99, 108, 111, 115, 101, 100]⟩ : ByteArray)]) (.int .i64 3)).run Try.prog w = .ok (.string (⟨#[97, 110, 115, 119, 101, 114, 101, 100]⟩ : ByteArray)) w := fun _ => by kernel_rfl
  have i4 : ∀ w, (Instr.index 45 (.agg #[.string (⟨#[110, 111, 110, 101]⟩ : ByteArray), .string (⟨#[97, 115, 107, 101, 100]⟩ : ByteArray), .string (⟨#[98, 111, 116, 104]⟩ : ByteArray), .string (⟨#[97, 110, 115, 119, 101, 114, 101, 100]⟩ : ByteArray), .string (⟨#[111, 112, 101, 110]⟩ : ByteArray), .string (⟨#[100, 111, 110, 101, 49]⟩ : ByteArray), .string (⟨#[100, 111, 110, 101, 50]⟩ : ByteArray), .string (⟨#[100, 111, 110, 101]⟩ : ByteArray), .string (⟨#[119, 97, 105, 116]⟩ : ByteArray), .string (⟨#[99, 108, 111, 115, 101, 100]⟩ : ByteArray)]) (.int .i64 4)).run Try.prog w = .ok (.string (⟨#[111, 112, 101, 110]⟩ : ByteArray)) w := fun _ => by kernel_rfl
  have i5 : ∀ w, (Instr.index 45 (.agg #[.string (⟨#[110, 111, 110, 101]⟩ : ByteArray), .string (⟨#[97, 115, 107, 101, 100]⟩ : ByteArray), .string (⟨#[98, 111, 116, 104]⟩ : ByteArray), .string (⟨#[97, 110, 115, 119, 101, 114, 101, 100]⟩ : ByteArray), .string (⟨#[111, 112, 101, 110]⟩ : ByteArray), .string (⟨#[100, 111, 110, 101, 49]⟩ : ByteArray), .string (⟨#[100, 111, 110, 101, 50]⟩ : ByteArray), .string (⟨#[100, 111, 110, 101]⟩ : ByteArray), .string (⟨#[119, 97, 105, 116]⟩ : ByteArray), .string (⟨#[99, 108, 111, 115, 101, 100]⟩ : ByteArray)]) (.int .i64 5)).run Try.prog w = .ok (.string (⟨#[100, 111, 110, 101, 49]⟩ : ByteArray)) w := fun _ => by kernel_rfl
  have i6 : ∀ w, (Instr.index 45 (.agg #[.string (⟨#[110, 111, 110, 101]⟩ : ByteArray), .string (⟨#[97, 115, 107, 101, 100]⟩ : ByteArray), .string (⟨#[98, 111, 116, 104]⟩ : ByteArray), .string (⟨#[97, 110, 115, 119, 101, 114, 101, 100]⟩ : ByteArray), .string (⟨#[111, 112, 101, 110]⟩ : ByteArray), .string (⟨#[100, 111, 110, 101, 49]⟩ : ByteArray), .string (⟨#[100, 111, 110, 101, 50]⟩ : ByteArray), .string (⟨#[100, 111, 110, 101]⟩ : ByteArray), .string (⟨#[119, 97, 105, 116]⟩ : ByteArray), .string (⟨#[99, 108, 111, 115, 101, 100]⟩ : ByteArray)]) (.int .i64 6)).run Try.prog w = .ok (.string (⟨#[100, 111, 110, 101, 50]⟩ : ByteArray)) w := fun _ => by kernel_rfl
  have i7 : ∀ w, (Instr.index 45 (.agg #[.string (⟨#[110, 111, 110, 101]⟩ : ByteArray), .string (⟨#[97, 115, 107, 101, 100]⟩ : ByteArray), .string (⟨#[98, 111, 116, 104]⟩ : ByteArray), .string (⟨#[97, 110, 115, 119, 101, 114, 101, 100]⟩ : ByteArray), .string (⟨#[111, 112, 101, 110]⟩ : ByteArray), .string (⟨#[100, 111, 110, 101, 49]⟩ : ByteArray), .string (⟨#[100, 111, 110, 101, 50]⟩ : ByteArray), .string (⟨#[100, 111, 110, 101]⟩ : ByteArray), .string (⟨#[119, 97, 105, 116]⟩ : ByteArray), .string (⟨#[99, 108, 111, 115, 101, 100]⟩ : ByteArray)]) (.int .i64 7)).run Try.prog w = .ok (.string (⟨#[100, 111, 110, 101]⟩ : ByteArray)) w := fun _ => by kernel_rfl
  have i8 : ∀ w, (Instr.index 45 (.agg #[.string (⟨#[110, 111, 110, 101]⟩ : ByteArray), .string (⟨#[97, 115, 107, 101, 100]⟩ : ByteArray), .string (⟨#[98, 111, 116, 104]⟩ : ByteArray), .string (⟨#[97, 110, 115, 119, 101, 114, 101, 100]⟩ : ByteArray), .string (⟨#[111, 112, 101, 110]⟩ : ByteArray), .string (⟨#[100, 111, 110, 101, 49]⟩ : ByteArray), .string (⟨#[100, 111, 110, 101, 50]⟩ : ByteArray), .string (⟨#[100, 111, 110, 101]⟩ : ByteArray), .string (⟨#[119, 97, 105, 116]⟩ : ByteArray), .string (⟨#[99, 108, 111, 115, 101, 100]⟩ : ByteArray)]) (.int .i64 8)).run Try.prog w = .ok (.string (⟨#[119, 97, 105, 116]⟩ : ByteArray)) w := fun _ => by kernel_rfl
  have i9 : ∀ w, (Instr.index 45 (.agg #[.string (⟨#[110, 111, 110, 101]⟩ : ByteArray), .string (⟨#[97, 115, 107, 101, 100]⟩ : ByteArray), .string (⟨#[98, 111, 116, 104]⟩ : ByteArray), .string (⟨#[97, 110, 115, 119, 101, 114, 101, 100]⟩ : ByteArray), .string (⟨#[111, 112, 101, 110]⟩ : ByteArray), .string (⟨#[100, 111, 110, 101, 49]⟩ : ByteArray), .string (⟨#[100, 111, 110, 101, 50]⟩ : ByteArray), .string (⟨#[100, 111, 110, 101]⟩ : ByteArray), .string (⟨#[119, 97, 105, 116]⟩ : ByteArray), .string (⟨#[99, 108, 111, 115, 101, 100]⟩ : ByteArray)]) (.int .i64 9)).run Try.prog w = .ok (.string (⟨#[99, 108, 111, 115, 101, 100]⟩ : ByteArray)) w := fun _ => by kernel_rfl
  have H : Aside0 (phase_Parse.lp a0 10 0 = (r1, r2)) := ⟨Option.some.inj h⟩
  clear h
  go_enter Try.func31, Try.ntmps31
  go_wp2_with (fail)
  refine (phase_names.calls _ _ _ _ _ _ _ _ _ _ _ rfl).mono ?_
  rintro e w' ⟨rfl, hb⟩
  have HB := Aside0.mk hb
  clear hb
  go_wp2
  go_loopg [7] 10 (fun kq v7 wc => ∃ (i : Nat), v7 = .int .i64 i ∧ Aside0 (i + kq = 10) ∧ Aside0 (phase_Parse.lp a0 kq i = (r1, r2)) ∧ Aside0 (Below w.heap.size w wc))
  case atStart => exact ⟨0, rfl, ⟨rfl⟩, H, HB⟩
  case round =>
    clear H HB
    obtain ⟨i, rfl, HI, H, HB⟩ := hrel
    have hi := HI.out
    have hk : gk ≤ 10 := by omega
    match gk, hk with
    | 0, _ =>
      obtain rfl : i = 10 := by omega
      have h2 := H.out
      simp only [phase_Parse.lp, Prod.mk.injEq] at h2
      obtain ⟨rfl, rfl⟩ := h2
      clear hi HI H
      go_wp2
      go_ret2
      exact ⟨by first | rfl | (simp; done) | (simp [*]; done), HB.out⟩
    | 1, _ =>
      obtain rfl : i = 9 := by omega
      have h2 := H.out
      clear hi HI H
      simp only [phase_Parse.lp, phase_Parse.nm] at h2
      by_cases hq : (⟨#[99, 108, 111, 115, 101, 100]⟩ : ByteArray) = a0
      · rw [if_pos hq] at h2
        obtain ⟨rfl, rfl⟩ := Prod.mk.inj h2
        subst hq
        go_wp2
        go_ret2
        exact ⟨by first | rfl | (simp; done) | (simp [*]; done), HB.out⟩
      · rw [if_neg hq] at h2
        have hqb : (([99, 108, 111, 115, 101, 100] : List UInt8) == a0.toList) = false := phase_Parse.ne hq
        have H' : Aside0 (phase_Parse.lp a0 0 10 = (r1, r2)) := ⟨by first | exact h2 | simpa only [phase_Parse.lp, phase_Parse.nm] using h2⟩
        clear h2
        go_wp2
        go_roundg 0
        case rel => exact ⟨10, by go_num, ⟨by omega⟩, H', HB⟩
        case measure => omega
    | 2, _ =>
      obtain rfl : i = 8 := by omega
      have h2 := H.out
      clear hi HI H
      simp only [phase_Parse.lp, phase_Parse.nm] at h2
      by_cases hq : (⟨#[119, 97, 105, 116]⟩ : ByteArray) = a0
      · rw [if_pos hq] at h2
        obtain ⟨rfl, rfl⟩ := Prod.mk.inj h2
        subst hq
        go_wp2
        go_ret2
        exact ⟨by first | rfl | (simp; done) | (simp [*]; done), HB.out⟩
      · rw [if_neg hq] at h2
        have hqb : (([119, 97, 105, 116] : List UInt8) == a0.toList) = false := phase_Parse.ne hq
        have H' : Aside0 (phase_Parse.lp a0 1 9 = (r1, r2)) := ⟨by first | exact h2 | simpa only [phase_Parse.lp, phase_Parse.nm] using h2⟩
        clear h2
        go_wp2
        go_roundg 1
        case rel => exact ⟨9, by go_num, ⟨by omega⟩, H', HB⟩
        case measure => omega
    | 3, _ =>
      obtain rfl : i = 7 := by omega
      have h2 := H.out
      clear hi HI H
      simp only [phase_Parse.lp, phase_Parse.nm] at h2
      by_cases hq : (⟨#[100, 111, 110, 101]⟩ : ByteArray) = a0
      · rw [if_pos hq] at h2
        obtain ⟨rfl, rfl⟩ := Prod.mk.inj h2
        subst hq
        go_wp2
        go_ret2
        exact ⟨by first | rfl | (simp; done) | (simp [*]; done), HB.out⟩
      · rw [if_neg hq] at h2
        have hqb : (([100, 111, 110, 101] : List UInt8) == a0.toList) = false := phase_Parse.ne hq
        have H' : Aside0 (phase_Parse.lp a0 2 8 = (r1, r2)) := ⟨by first | exact h2 | simpa only [phase_Parse.lp, phase_Parse.nm] using h2⟩
        clear h2
        go_wp2
        go_roundg 2
        case rel => exact ⟨8, by go_num, ⟨by omega⟩, H', HB⟩
        case measure => omega
    | 4, _ =>
      obtain rfl : i = 6 := by omega
      have h2 := H.out
      clear hi HI H
      simp only [phase_Parse.lp, phase_Parse.nm] at h2
      by_cases hq : (⟨#[100, 111, 110, 101, 50]⟩ : ByteArray) = a0
      · rw [if_pos hq] at h2
        obtain ⟨rfl, rfl⟩ := Prod.mk.inj h2
        subst hq
        go_wp2
        go_ret2
        exact ⟨by first | rfl | (simp; done) | (simp [*]; done), HB.out⟩
      · rw [if_neg hq] at h2
        have hqb : (([100, 111, 110, 101, 50] : List UInt8) == a0.toList) = false := phase_Parse.ne hq
        have H' : Aside0 (phase_Parse.lp a0 3 7 = (r1, r2)) := ⟨by first | exact h2 | simpa only [phase_Parse.lp, phase_Parse.nm] using h2⟩
        clear h2
        go_wp2
        go_roundg 3
        case rel => exact ⟨7, by go_num, ⟨by omega⟩, H', HB⟩
        case measure => omega
    | 5, _ =>
      obtain rfl : i = 5 := by omega
      have h2 := H.out
      clear hi HI H
      simp only [phase_Parse.lp, phase_Parse.nm] at h2
      by_cases hq : (⟨#[100, 111, 110, 101, 49]⟩ : ByteArray) = a0
      · rw [if_pos hq] at h2
        obtain ⟨rfl, rfl⟩ := Prod.mk.inj h2
        subst hq
        go_wp2
        go_ret2
        exact ⟨by first | rfl | (simp; done) | (simp [*]; done), HB.out⟩
      · rw [if_neg hq] at h2
        have hqb : (([100, 111, 110, 101, 49] : List UInt8) == a0.toList) = false := phase_Parse.ne hq
        have H' : Aside0 (phase_Parse.lp a0 4 6 = (r1, r2)) := ⟨by first | exact h2 | simpa only [phase_Parse.lp, phase_Parse.nm] using h2⟩
        clear h2
        go_wp2
        go_roundg 4
        case rel => exact ⟨6, by go_num, ⟨by omega⟩, H', HB⟩
        case measure => omega
    | 6, _ =>
      obtain rfl : i = 4 := by omega
      have h2 := H.out
      clear hi HI H
      simp only [phase_Parse.lp, phase_Parse.nm] at h2
      by_cases hq : (⟨#[111, 112, 101, 110]⟩ : ByteArray) = a0
      · rw [if_pos hq] at h2
        obtain ⟨rfl, rfl⟩ := Prod.mk.inj h2
        subst hq
        go_wp2
        go_ret2
        exact ⟨by first | rfl | (simp; done) | (simp [*]; done), HB.out⟩
      · rw [if_neg hq] at h2
        have hqb : (([111, 112, 101, 110] : List UInt8) == a0.toList) = false := phase_Parse.ne hq
        have H' : Aside0 (phase_Parse.lp a0 5 5 = (r1, r2)) := ⟨by first | exact h2 | simpa only [phase_Parse.lp, phase_Parse.nm] using h2⟩
        clear h2
        go_wp2
        go_roundg 5
        case rel => exact ⟨5, by go_num, ⟨by omega⟩, H', HB⟩
        case measure => omega
    | 7, _ =>
      obtain rfl : i = 3 := by omega
      have h2 := H.out
      clear hi HI H
      simp only [phase_Parse.lp, phase_Parse.nm] at h2
      by_cases hq : (⟨#[97, 110, 115, 119, 101, 114, 101, 100]⟩ : ByteArray) = a0
      · rw [if_pos hq] at h2
        obtain ⟨rfl, rfl⟩ := Prod.mk.inj h2
        subst hq
        go_wp2
        go_ret2
        exact ⟨by first | rfl | (simp; done) | (simp [*]; done), HB.out⟩
      · rw [if_neg hq] at h2
        have hqb : (([97, 110, 115, 119, 101, 114, 101, 100] : List UInt8) == a0.toList) = false := phase_Parse.ne hq
        have H' : Aside0 (phase_Parse.lp a0 6 4 = (r1, r2)) := ⟨by first | exact h2 | simpa only [phase_Parse.lp, phase_Parse.nm] using h2⟩
        clear h2
        go_wp2
        go_roundg 6
        case rel => exact ⟨4, by go_num, ⟨by omega⟩, H', HB⟩
        case measure => omega
    | 8, _ =>
      obtain rfl : i = 2 := by omega
      have h2 := H.out
      clear hi HI H
      simp only [phase_Parse.lp, phase_Parse.nm] at h2
      by_cases hq : (⟨#[98, 111, 116, 104]⟩ : ByteArray) = a0
      · rw [if_pos hq] at h2
        obtain ⟨rfl, rfl⟩ := Prod.mk.inj h2
        subst hq
        go_wp2
        go_ret2
        exact ⟨by first | rfl | (simp; done) | (simp [*]; done), HB.out⟩
      · rw [if_neg hq] at h2
        have hqb : (([98, 111, 116, 104] : List UInt8) == a0.toList) = false := phase_Parse.ne hq
        have H' : Aside0 (phase_Parse.lp a0 7 3 = (r1, r2)) := ⟨by first | exact h2 | simpa only [phase_Parse.lp, phase_Parse.nm] using h2⟩
        clear h2
        go_wp2
        go_roundg 7
        case rel => exact ⟨3, by go_num, ⟨by omega⟩, H', HB⟩
        case measure => omega
    | 9, _ =>
      obtain rfl : i = 1 := by omega
      have h2 := H.out
      clear hi HI H
      simp only [phase_Parse.lp, phase_Parse.nm] at h2
      by_cases hq : (⟨#[97, 115, 107, 101, 100]⟩ : ByteArray) = a0
      · rw [if_pos hq] at h2
        obtain ⟨rfl, rfl⟩ := Prod.mk.inj h2
        subst hq
        go_wp2
        go_ret2
        exact ⟨by first | rfl | (simp; done) | (simp [*]; done), HB.out⟩
      · rw [if_neg hq] at h2
        have hqb : (([97, 115, 107, 101, 100] : List UInt8) == a0.toList) = false := phase_Parse.ne hq
        have H' : Aside0 (phase_Parse.lp a0 8 2 = (r1, r2)) := ⟨by first | exact h2 | simpa only [phase_Parse.lp, phase_Parse.nm] using h2⟩
        clear h2
        go_wp2
        go_roundg 8
        case rel => exact ⟨2, by go_num, ⟨by omega⟩, H', HB⟩
        case measure => omega
    | 10, _ =>
      obtain rfl : i = 0 := by omega
      have h2 := H.out
      clear hi HI H
      simp only [phase_Parse.lp, phase_Parse.nm] at h2
      by_cases hq : (⟨#[110, 111, 110, 101]⟩ : ByteArray) = a0
      · rw [if_pos hq] at h2
        obtain ⟨rfl, rfl⟩ := Prod.mk.inj h2
        subst hq
        go_wp2
        go_ret2
        exact ⟨by first | rfl | (simp; done) | (simp [*]; done), HB.out⟩
      · rw [if_neg hq] at h2
        have hqb : (([110, 111, 110, 101] : List UInt8) == a0.toList) = false := phase_Parse.ne hq
        have H' : Aside0 (phase_Parse.lp a0 9 1 = (r1, r2)) := ⟨by first | exact h2 | simpa only [phase_Parse.lp, phase_Parse.nm] using h2⟩
        clear h2
        go_wp2
        go_roundg 9
        case rel => exact ⟨1, by go_num, ⟨by omega⟩, H', HB⟩
        case measure => omega

end Go.Proofs.Ytaemgicmbnmecaa.PAll
