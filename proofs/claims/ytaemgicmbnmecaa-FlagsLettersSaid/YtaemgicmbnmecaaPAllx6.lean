-- Written by a program of this work (wip/mkprint.py, wip/myprint.sh) out of the translation; not trusted: Lean checks it.
import Derived.Test.YtaemgicmbnmecaaPAllx0
import Derived.Test.YtaemgicmbnmecaaPAllx1
namespace Go.Proofs.Ytaemgicmbnmecaa.PAll
open Go.RowKit Go.Proofs.YtaemgicmbnmecaaW.PrintWords Go.Proofs.YtaemgicmbnmecaaW.PrintLast Go.Proofs.YtaemgicmbnmecaaW.PrintMore
attribute [local go_sem] max2_int min2_int max_two min_two max_three min_three max_four min_four   -- for this text's walks alone
set_option linter.unusedVariables false
set_option linter.unusedSimpArgs false

/-! ### rampartref10_Show: function 21 (by hand) -/
def rampartref10_Show.pw : Nat → Int
  | 0 => 1
  | 1 => 2
  | 2 => 4
  | 3 => 8
  | 4 => 16
  | 5 => 32
  | _ => 64
def rampartref10_Show.bit (n f : Int) : Bool := Int.tmod (wrap64 (Int.tdiv n f)) 2 == 1
def rampartref10_Show.letter : Nat → ByteArray
  | 0 => (⟨#[70]⟩ : ByteArray)
  | 1 => (⟨#[83]⟩ : ByteArray)
  | 2 => (⟨#[82]⟩ : ByteArray)
  | 3 => (⟨#[80]⟩ : ByteArray)
  | 4 => (⟨#[65]⟩ : ByteArray)
  | 5 => (⟨#[85]⟩ : ByteArray)
  | _ => ⟨#[]⟩
def rampartref10_Show.lp (n : Int) : Nat → Nat → ByteArray → ByteArray
  | 0, _, x => if x.data.toList = [] then (⟨#[46]⟩ : ByteArray) else x
  | k + 1, i, x => rampartref10_Show.lp n k (i + 1) (if rampartref10_Show.bit n (rampartref10_Show.pw i) = true then x ++ rampartref10_Show.letter i else x)
def rampartref10_Show.f (a0 : Int) : Option (ByteArray) := if a0 < 0 then some (⟨#[]⟩ : ByteArray) else if 63 < a0 then some (⟨#[]⟩ : ByteArray) else some (rampartref10_Show.lp a0 6 0 (⟨#[]⟩ : ByteArray))
set_option maxHeartbeats 8000000 in
set_option maxRecDepth 100000 in
theorem rampartref10_Show.calls (a0 : Int) (r : ByteArray) (w : World) (h : rampartref10_Show.f a0 = some r) :
    Calls Try.prog 21 #[.int .i64 a0] w fun e w' => e = .returned (.string r) ∧ Below w.heap.size w w' := by
  have HB := Aside0.mk (Below.refl w.heap.size w)
  by_cases c : a0 < 0
  · have cb : decide (a0 < 0) = true := decide_eq_true c
    rw [rampartref10_Show.f, if_pos c] at h
    obtain rfl := Option.some.inj h
    go_enter Try.func21, Try.ntmps21
    go_wp2
    go_ret
    exact ⟨by first | rfl | (simp; done) | (simp [*]; done), by first | exact HB.out | repeat (first | exact HB.out | exact Below.refl _ _ | apply below_alloc | apply pw_below_drewN | apply below_drew1)⟩
  have cb : decide (a0 < 0) = false := decide_eq_false c
  by_cases d : 63 < a0
  · have db : decide (63 < a0) = true := decide_eq_true d
    rw [rampartref10_Show.f, if_neg c, if_pos d] at h
    obtain rfl := Option.some.inj h
    go_enter Try.func21, Try.ntmps21
    go_wp2
    go_ret
    exact ⟨by first | rfl | (simp; done) | (simp [*]; done), by first | exact HB.out | repeat (first | exact HB.out | exact Below.refl _ _ | apply below_alloc | apply pw_below_drewN | apply below_drew1)⟩
  have db : decide (63 < a0) = false := decide_eq_false d
  rw [rampartref10_Show.f, if_neg c, if_neg d] at h
  have H : Aside0 (rampartref10_Show.lp a0 6 0 (⟨#[]⟩ : ByteArray) = r) := ⟨Option.some.inj h⟩
  clear h
  go_enter Try.func21, Try.ntmps21
  go_wp2
  go_loopg [3, 5, 6] 6 (fun kq v3 v5 v6 wc => ∃ (i : Nat) (x : ByteArray), v3 = .string x ∧ v5 = .int .i64 (rampartref10_Show.pw i) ∧ v6 = .int .i64 i ∧ Aside0 (i + kq = 6) ∧ Aside0 (x.size ≤ i) ∧ Aside0 (rampartref10_Show.lp a0 kq i x = r) ∧ Aside0 (Below w.heap.size w wc))
  case atStart => exact ⟨0, ⟨#[]⟩, rfl, rfl, rfl, ⟨rfl⟩, ⟨Nat.le_refl _⟩, H, HB⟩
  case round =>
    clear H HB
    obtain ⟨i, x, rfl, rfl, rfl, HI, HX, H, HB⟩ := hrel
    have hi := HI.out
    have hk : gk ≤ 6 := by omega
    match gk, hk with
    | 0, _ =>
      obtain rfl : i = 6 := by omega
      have h2 := H.out
      simp only [rampartref10_Show.lp] at h2
      clear hi HI H
      by_cases hx : x.data.toList = []
      · obtain rfl : x = ⟨#[]⟩ := by cases x; simpa using hx
        rw [if_pos rfl] at h2
        obtain rfl := h2
        go_wp2
        go_ret
        exact ⟨by first | rfl | (simp; done) | (simp [*]; done), by first | exact HB.out | repeat (first | exact HB.out | exact Below.refl _ _ | apply below_alloc | apply pw_below_drewN | apply below_drew1)⟩
      · rw [if_neg hx] at h2
        obtain rfl := h2
        have hx1 : (x.toList == ([] : List UInt8)) = false := by rw [ByteArray.toList_eq]; simpa using hx
        have hx2 : (x.toList != ([] : List UInt8)) = true := by rw [ByteArray.toList_eq]; simpa using hx
        go_wp2
        go_ret
        exact ⟨by first | rfl | (simp; done) | (simp [*]; done), by first | exact HB.out | repeat (first | exact HB.out | exact Below.refl _ _ | apply below_alloc | apply pw_below_drewN | apply below_drew1)⟩
    | 1, _ =>
      obtain rfl : i = 5 := by omega
      have h2 := H.out
      have hxs := HX.out
      clear hi HI H
      simp only [rampartref10_Show.lp] at h2
      have hh : rampartref10_has.f a0 32 = some (rampartref10_Show.bit a0 32) := rfl
      simp only [rampartref10_Show.pw]
      by_cases hb : rampartref10_Show.bit a0 32 = true
      · rw [show rampartref10_Show.pw 5 = 32 from rfl, if_pos hb] at h2
        have H' : Aside0 (rampartref10_Show.lp a0 0 6 (x ++ (⟨#[85]⟩ : ByteArray)) = r) := ⟨by first | exact h2 | simpa only [rampartref10_Show.lp, rampartref10_Show.letter] using h2⟩
        rw [hb] at hh
        have HH := Aside0.mk hh
        clear h2 hb hh
        go_wp2_with (fail)
        refine (rampartref10_has.calls _ _ _ _ HH.out).mono ?_
        rintro e w' ⟨rfl, ⟨nd, rfl⟩⟩
        go_wp2
        go_roundg 0
        case rel => exact ⟨6, x ++ (⟨#[85]⟩ : ByteArray), by first | rfl | (simp; done), by first | rfl | (simp [rampartref10_Show.pw]; done), by go_num, ⟨by omega⟩, ⟨by rw [ByteArray.size_append, show ((⟨#[85]⟩ : ByteArray)).size = 1 from rfl]; have := HX.out; omega⟩, H', ⟨by repeat (first | exact HB.out | apply below_alloc | apply pw_below_drewN | apply below_drew1)⟩⟩
        case measure => omega
      · rw [show rampartref10_Show.pw 5 = 32 from rfl, if_neg hb] at h2
        have H' : Aside0 (rampartref10_Show.lp a0 0 6 x = r) := ⟨by first | exact h2 | simpa only [rampartref10_Show.lp, rampartref10_Show.letter] using h2⟩
        rw [Bool.eq_false_iff.mpr hb] at hh
        have HH := Aside0.mk hh
        clear h2 hb hh
        go_wp2_with (fail)
        refine (rampartref10_has.calls _ _ _ _ HH.out).mono ?_
        rintro e w' ⟨rfl, ⟨nd, rfl⟩⟩
        go_wp2
        go_roundg 0
        case rel => exact ⟨6, x, by first | rfl | (simp; done), by first | rfl | (simp [rampartref10_Show.pw]; done), by go_num, ⟨by omega⟩, ⟨by have := HX.out; omega⟩, H', ⟨by repeat (first | exact HB.out | apply below_alloc | apply pw_below_drewN | apply below_drew1)⟩⟩
        case measure => omega
    | 2, _ =>
      obtain rfl : i = 4 := by omega
      have h2 := H.out
      have hxs := HX.out
      clear hi HI H
      simp only [rampartref10_Show.lp] at h2
      have hh : rampartref10_has.f a0 16 = some (rampartref10_Show.bit a0 16) := rfl
      simp only [rampartref10_Show.pw]
      by_cases hb : rampartref10_Show.bit a0 16 = true
      · rw [show rampartref10_Show.pw 4 = 16 from rfl, if_pos hb] at h2
        have H' : Aside0 (rampartref10_Show.lp a0 1 5 (x ++ (⟨#[65]⟩ : ByteArray)) = r) := ⟨by first | exact h2 | simpa only [rampartref10_Show.lp, rampartref10_Show.letter] using h2⟩
        rw [hb] at hh
        have HH := Aside0.mk hh
        clear h2 hb hh
        go_wp2_with (fail)
        refine (rampartref10_has.calls _ _ _ _ HH.out).mono ?_
        rintro e w' ⟨rfl, ⟨nd, rfl⟩⟩
        go_wp2
        go_roundg 1
        case rel => exact ⟨5, x ++ (⟨#[65]⟩ : ByteArray), by first | rfl | (simp; done), by first | rfl | (simp [rampartref10_Show.pw]; done), by go_num, ⟨by omega⟩, ⟨by rw [ByteArray.size_append, show ((⟨#[65]⟩ : ByteArray)).size = 1 from rfl]; have := HX.out; omega⟩, H', ⟨by repeat (first | exact HB.out | apply below_alloc | apply pw_below_drewN | apply below_drew1)⟩⟩
        case measure => omega
      · rw [show rampartref10_Show.pw 4 = 16 from rfl, if_neg hb] at h2
        have H' : Aside0 (rampartref10_Show.lp a0 1 5 x = r) := ⟨by first | exact h2 | simpa only [rampartref10_Show.lp, rampartref10_Show.letter] using h2⟩
        rw [Bool.eq_false_iff.mpr hb] at hh
        have HH := Aside0.mk hh
        clear h2 hb hh
        go_wp2_with (fail)
        refine (rampartref10_has.calls _ _ _ _ HH.out).mono ?_
        rintro e w' ⟨rfl, ⟨nd, rfl⟩⟩
        go_wp2
        go_roundg 1
        case rel => exact ⟨5, x, by first | rfl | (simp; done), by first | rfl | (simp [rampartref10_Show.pw]; done), by go_num, ⟨by omega⟩, ⟨by have := HX.out; omega⟩, H', ⟨by repeat (first | exact HB.out | apply below_alloc | apply pw_below_drewN | apply below_drew1)⟩⟩
        case measure => omega
    | 3, _ =>
      obtain rfl : i = 3 := by omega
      have h2 := H.out
      have hxs := HX.out
      clear hi HI H
      simp only [rampartref10_Show.lp] at h2
      have hh : rampartref10_has.f a0 8 = some (rampartref10_Show.bit a0 8) := rfl
      simp only [rampartref10_Show.pw]
      by_cases hb : rampartref10_Show.bit a0 8 = true
      · rw [show rampartref10_Show.pw 3 = 8 from rfl, if_pos hb] at h2
        have H' : Aside0 (rampartref10_Show.lp a0 2 4 (x ++ (⟨#[80]⟩ : ByteArray)) = r) := ⟨by first | exact h2 | simpa only [rampartref10_Show.lp, rampartref10_Show.letter] using h2⟩
        rw [hb] at hh
        have HH := Aside0.mk hh
        clear h2 hb hh
        go_wp2_with (fail)
        refine (rampartref10_has.calls _ _ _ _ HH.out).mono ?_
        rintro e w' ⟨rfl, ⟨nd, rfl⟩⟩
        go_wp2
        go_roundg 2
        case rel => exact ⟨4, x ++ (⟨#[80]⟩ : ByteArray), by first | rfl | (simp; done), by first | rfl | (simp [rampartref10_Show.pw]; done), by go_num, ⟨by omega⟩, ⟨by rw [ByteArray.size_append, show ((⟨#[80]⟩ : ByteArray)).size = 1 from rfl]; have := HX.out; omega⟩, H', ⟨by repeat (first | exact HB.out | apply below_alloc | apply pw_below_drewN | apply below_drew1)⟩⟩
        case measure => omega
      · rw [show rampartref10_Show.pw 3 = 8 from rfl, if_neg hb] at h2
        have H' : Aside0 (rampartref10_Show.lp a0 2 4 x = r) := ⟨by first | exact h2 | simpa only [rampartref10_Show.lp, rampartref10_Show.letter] using h2⟩
        rw [Bool.eq_false_iff.mpr hb] at hh
        have HH := Aside0.mk hh
        clear h2 hb hh
        go_wp2_with (fail)
        refine (rampartref10_has.calls _ _ _ _ HH.out).mono ?_
        rintro e w' ⟨rfl, ⟨nd, rfl⟩⟩
        go_wp2
        go_roundg 2
        case rel => exact ⟨4, x, by first | rfl | (simp; done), by first | rfl | (simp [rampartref10_Show.pw]; done), by go_num, ⟨by omega⟩, ⟨by have := HX.out; omega⟩, H', ⟨by repeat (first | exact HB.out | apply below_alloc | apply pw_below_drewN | apply below_drew1)⟩⟩
        case measure => omega
    | 4, _ =>
      obtain rfl : i = 2 := by omega
      have h2 := H.out
      have hxs := HX.out
      clear hi HI H
      simp only [rampartref10_Show.lp] at h2
      have hh : rampartref10_has.f a0 4 = some (rampartref10_Show.bit a0 4) := rfl
      simp only [rampartref10_Show.pw]
      by_cases hb : rampartref10_Show.bit a0 4 = true
      · rw [show rampartref10_Show.pw 2 = 4 from rfl, if_pos hb] at h2
        have H' : Aside0 (rampartref10_Show.lp a0 3 3 (x ++ (⟨#[82]⟩ : ByteArray)) = r) := ⟨by first | exact h2 | simpa only [rampartref10_Show.lp, rampartref10_Show.letter] using h2⟩
        rw [hb] at hh
        have HH := Aside0.mk hh
        clear h2 hb hh
        go_wp2_with (fail)
        refine (rampartref10_has.calls _ _ _ _ HH.out).mono ?_
        rintro e w' ⟨rfl, ⟨nd, rfl⟩⟩
        go_wp2
        go_roundg 3
        case rel => exact ⟨3, x ++ (⟨#[82]⟩ : ByteArray), by first | rfl | (simp; done), by first | rfl | (simp [rampartref10_Show.pw]; done), by go_num, ⟨by omega⟩, ⟨by rw [ByteArray.size_append, show ((⟨#[82]⟩ : ByteArray)).size = 1 from rfl]; have := HX.out; omega⟩, H', ⟨by repeat (first | exact HB.out | apply below_alloc | apply pw_below_drewN | apply below_drew1)⟩⟩
        case measure => omega
      · rw [show rampartref10_Show.pw 2 = 4 from rfl, if_neg hb] at h2
        have H' : Aside0 (rampartref10_Show.lp a0 3 3 x = r) := ⟨by first | exact h2 | simpa only [rampartref10_Show.lp, rampartref10_Show.letter] using h2⟩
        rw [Bool.eq_false_iff.mpr hb] at hh
        have HH := Aside0.mk hh
        clear h2 hb hh
        go_wp2_with (fail)
        refine (rampartref10_has.calls _ _ _ _ HH.out).mono ?_
        rintro e w' ⟨rfl, ⟨nd, rfl⟩⟩
        go_wp2
        go_roundg 3
        case rel => exact ⟨3, x, by first | rfl | (simp; done), by first | rfl | (simp [rampartref10_Show.pw]; done), by go_num, ⟨by omega⟩, ⟨by have := HX.out; omega⟩, H', ⟨by repeat (first | exact HB.out | apply below_alloc | apply pw_below_drewN | apply below_drew1)⟩⟩
        case measure => omega
    | 5, _ =>
      obtain rfl : i = 1 := by omega
      have h2 := H.out
      have hxs := HX.out
      clear hi HI H
      simp only [rampartref10_Show.lp] at h2
      have hh : rampartref10_has.f a0 2 = some (rampartref10_Show.bit a0 2) := rfl
      simp only [rampartref10_Show.pw]
      by_cases hb : rampartref10_Show.bit a0 2 = true
      · rw [show rampartref10_Show.pw 1 = 2 from rfl, if_pos hb] at h2
        have H' : Aside0 (rampartref10_Show.lp a0 4 2 (x ++ (⟨#[83]⟩ : ByteArray)) = r) := ⟨by first | exact h2 | simpa only [rampartref10_Show.lp, rampartref10_Show.letter] using h2⟩
        rw [hb] at hh
        have HH := Aside0.mk hh
        clear h2 hb hh
        go_wp2_with (fail)
        refine (rampartref10_has.calls _ _ _ _ HH.out).mono ?_
        rintro e w' ⟨rfl, ⟨nd, rfl⟩⟩
        go_wp2
        go_roundg 4
        case rel => exact ⟨2, x ++ (⟨#[83]⟩ : ByteArray), by first | rfl | (simp; done), by first | rfl | (simp [rampartref10_Show.pw]; done), by go_num, ⟨by omega⟩, ⟨by rw [ByteArray.size_append, show ((⟨#[83]⟩ : ByteArray)).size = 1 from rfl]; have := HX.out; omega⟩, H', ⟨by repeat (first | exact HB.out | apply below_alloc | apply pw_below_drewN | apply below_drew1)⟩⟩
        case measure => omega
      · rw [show rampartref10_Show.pw 1 = 2 from rfl, if_neg hb] at h2
        have H' : Aside0 (rampartref10_Show.lp a0 4 2 x = r) := ⟨by first | exact h2 | simpa only [rampartref10_Show.lp, rampartref10_Show.letter] using h2⟩
        rw [Bool.eq_false_iff.mpr hb] at hh
        have HH := Aside0.mk hh
        clear h2 hb hh
        go_wp2_with (fail)
        refine (rampartref10_has.calls _ _ _ _ HH.out).mono ?_
        rintro e w' ⟨rfl, ⟨nd, rfl⟩⟩
        go_wp2
        go_roundg 4
        case rel => exact ⟨2, x, by first | rfl | (simp; done), by first | rfl | (simp [rampartref10_Show.pw]; done), by go_num, ⟨by omega⟩, ⟨by have := HX.out; omega⟩, H', ⟨by repeat (first | exact HB.out | apply below_alloc | apply pw_below_drewN | apply below_drew1)⟩⟩
        case measure => omega
    | 6, _ =>
      obtain rfl : i = 0 := by omega
      have h2 := H.out
      have hxs := HX.out
      clear hi HI H
      simp only [rampartref10_Show.lp] at h2
      have hh : rampartref10_has.f a0 1 = some (rampartref10_Show.bit a0 1) := rfl
      simp only [rampartref10_Show.pw]
      by_cases hb : rampartref10_Show.bit a0 1 = true
      · rw [show rampartref10_Show.pw 0 = 1 from rfl, if_pos hb] at h2
        have H' : Aside0 (rampartref10_Show.lp a0 5 1 (x ++ (⟨#[70]⟩ : ByteArray)) = r) := ⟨by first | exact h2 | simpa only [rampartref10_Show.lp, rampartref10_Show.letter] using h2⟩
        rw [hb] at hh
        have HH := Aside0.mk hh
        clear h2 hb hh
        go_wp2_with (fail)
        refine (rampartref10_has.calls _ _ _ _ HH.out).mono ?_
        rintro e w' ⟨rfl, ⟨nd, rfl⟩⟩
        go_wp2
        go_roundg 5
        case rel => exact ⟨1, x ++ (⟨#[70]⟩ : ByteArray), by first | rfl | (simp; done), by first | rfl | (simp [rampartref10_Show.pw]; done), by go_num, ⟨by omega⟩, ⟨by rw [ByteArray.size_append, show ((⟨#[70]⟩ : ByteArray)).size = 1 from rfl]; have := HX.out; omega⟩, H', ⟨by repeat (first | exact HB.out | apply below_alloc | apply pw_below_drewN | apply below_drew1)⟩⟩
        case measure => omega
      · rw [show rampartref10_Show.pw 0 = 1 from rfl, if_neg hb] at h2
        have H' : Aside0 (rampartref10_Show.lp a0 5 1 x = r) := ⟨by first | exact h2 | simpa only [rampartref10_Show.lp, rampartref10_Show.letter] using h2⟩
        rw [Bool.eq_false_iff.mpr hb] at hh
        have HH := Aside0.mk hh
        clear h2 hb hh
        go_wp2_with (fail)
        refine (rampartref10_has.calls _ _ _ _ HH.out).mono ?_
        rintro e w' ⟨rfl, ⟨nd, rfl⟩⟩
        go_wp2
        go_roundg 5
        case rel => exact ⟨1, x, by first | rfl | (simp; done), by first | rfl | (simp [rampartref10_Show.pw]; done), by go_num, ⟨by omega⟩, ⟨by have := HX.out; omega⟩, H', ⟨by repeat (first | exact HB.out | apply below_alloc | apply pw_below_drewN | apply below_drew1)⟩⟩
        case measure => omega

/-! ### rampartref10_Parse: function 19 -/
def rampartref10_Parse.l0 : Nat → ByteArray → Int → Option (Int × Bool)
  | 0, _, _ => none
  | k + 1, x0, x4 => if x4 < 64 then ((rampartref10_Show.f x4).bind fun t128 => (if t128.toList = x0.toList then (some (x4, true)) else (rampartref10_Parse.l0 k x0 (wrap64 (x4 + 1))))) else (some (0, false))
def rampartref10_Parse.f (k : Nat) (a0 : ByteArray) : Option (Int × Bool) := rampartref10_Parse.l0 k a0 0
theorem rampartref10_Parse.mono_l : ∀ k, (∀ y0 y1, LeO (rampartref10_Parse.l0 k y0 y1) (rampartref10_Parse.l0 (k + 1) y0 y1))
  | 0 => fun _ _ r h => by simp [rampartref10_Parse.l0] at h
  | k + 1 => by
    have ih0 := rampartref10_Parse.mono_l k
    · intro y0 y1
      unfold rampartref10_Parse.l0
      repeat' first
      | (with_reducible exact ih0 _ _)
      | (with_reducible exact LeO.refl _)
      | (with_reducible exact LeO.none _)
      | (with_reducible refine LeO.ite ?_ ?_)
      | (with_reducible refine LeO.bind ?_ (fun _ => ?_))
      | exact ih0 _ _
      | exact LeO.none _
      | refine LeO.ite ?_ ?_
      | refine LeO.bind ?_ (fun _ => ?_)
theorem rampartref10_Parse.mono : ∀ a0 k, LeO (rampartref10_Parse.f k a0) (rampartref10_Parse.f (k + 1) a0) := by
  intro a0 k
  have ih0 := rampartref10_Parse.mono_l k
  unfold rampartref10_Parse.f
  repeat' first
      | (with_reducible exact ih0 _ _)
      | (with_reducible exact LeO.refl _)
      | (with_reducible exact LeO.none _)
      | (with_reducible refine LeO.ite ?_ ?_)
      | (with_reducible refine LeO.bind ?_ (fun _ => ?_))
      | exact ih0 _ _
      | exact LeO.none _
      | refine LeO.ite ?_ ?_
      | refine LeO.bind ?_ (fun _ => ?_)
set_option maxHeartbeats 8000000 in
set_option maxRecDepth 100000 in
theorem rampartref10_Parse.calls (k : Nat) (a0 : ByteArray) (r1 : Int) (r2 : Bool) (w : World) (h : rampartref10_Parse.f k a0 = some (r1, r2)) :
    Calls Try.prog 19 #[.string a0] w fun e w' => e = .returned (.tuple #[.int .i64 r1, .bool r2]) ∧ Below w.heap.size w w' := by
  have HB := Aside0.mk (Below.refl w.heap.size w)
  have H : (rampartref10_Parse.l0 k a0 0) = some (r1, r2) := h
  clear h
  have H' := Aside0.mk H
  clear H
  go_enter Try.func19, Try.ntmps19
  go_wp2
  go_loopg [4] k (fun kq v4 w' => ∃ (x4_1 : Int), v4 = .int .i64 x4_1 ∧ Aside0 (rampartref10_Parse.l0 kq a0 x4_1 = some (r1, r2)) ∧ Aside0 (kq ≤ k) ∧ Aside0 (Below w.heap.size w w'))
  case atStart => exact ⟨(0), (by first | rfl | (simp; done) | (simp [*]; done)), H', ⟨Nat.le_refl _⟩, ⟨by repeat (first | (with_reducible first | exact HB.out | apply below_alloc | apply pw_below_drewN | apply below_drew1) | exact HB.out)⟩⟩
  case round =>
    clear H'
    try clear c1
    obtain ⟨x4_1, rfl, HA, HK1, HB⟩ := hrel
    cases gk with
    | zero => exact absurd HA.out (by simp [rampartref10_Parse.l0])
    | succ k1 =>
      have H := HA.out
      clear HA
      simp only [rampartref10_Parse.l0] at H
      by_cases c2 : x4_1 < 64
      · rw [if_pos c2] at H
        have c2b0 : decide (x4_1 < 64) = true := decide_eq_true c2
        clear c2
        replace H := Option.bind_eq_some_iff.mp H
        obtain ⟨t128, A30, H⟩ := H
        replace H : (if t128.toList = a0.toList then (some (x4_1, true)) else (rampartref10_Parse.l0 k1 a0 (wrap64 (x4_1 + 1)))) = some (r1, r2) := H
        have A3 := Aside0.mk A30
        clear A30
        by_cases c4 : t128.toList = a0.toList
        · rw [if_pos c4] at H
          have c4b0 : (t128.toList == a0.toList) = true := beq_iff_eq.mpr c4
          have c4b1 : (t128.toList != a0.toList) = false := bne_eq_false_iff_eq.mpr c4
          clear c4
          simp only [Option.some.injEq, Prod.mk.injEq] at H
          obtain ⟨rfl, rfl⟩ := H
          go_wp2_with (first | ((with_reducible refine gate_callee (f := 21) rfl ?_); refine goesL_ (some 10) rfl rfl Try.func21 (by kernel_rfl) rfl #[.int .i64 x4_1] rfl (by (try simp only [List.map_toArray, List.map_cons, List.map_nil]); first | done | rfl | (simp only [List.length_drop, List.length_take]; rfl)) ?_; (with_reducible refine (rampartref10_Show.calls x4_1 t128 _ A3.out).mono ?_); rintro e w5 ⟨rfl, hb⟩; refine ⟨_, rfl, ?_⟩; have n0_ := Aside0.mk (below_step (by repeat (first | (with_reducible first | exact HB.out | apply below_alloc | apply pw_below_drewN | apply below_drew1) | exact HB.out)) hb); clear HB; have HB := n0_; clear n0_; (try clear hb); (try clear hb2); (try clear hk); (try clear hi)))
          go_ret2
          exact ⟨by first | rfl | (simp [errW_none, errW_some] <;> rfl) | (simp [*, errW_none, errW_some] <;> rfl), by repeat (first | (with_reducible first | exact HB.out | apply below_alloc | apply pw_below_drewN | apply below_drew1) | exact HB.out)⟩
        · rw [if_neg c4] at H
          have c4b0 : (t128.toList == a0.toList) = false := beq_eq_false_iff_ne.mpr c4
          have c4b1 : (t128.toList != a0.toList) = true := bne_iff_ne.mpr c4
          have H' := Aside0.mk H
          clear H
          go_wp2_with (first | ((with_reducible refine gate_callee (f := 21) rfl ?_); refine goesL_ (some 10) rfl rfl Try.func21 (by kernel_rfl) rfl #[.int .i64 x4_1] rfl (by (try simp only [List.map_toArray, List.map_cons, List.map_nil]); first | done | rfl | (simp only [List.length_drop, List.length_take]; rfl)) ?_; (with_reducible refine (rampartref10_Show.calls x4_1 t128 _ A3.out).mono ?_); rintro e w6 ⟨rfl, hb⟩; refine ⟨_, rfl, ?_⟩; have n0_ := Aside0.mk (below_step (by repeat (first | (with_reducible first | exact HB.out | apply below_alloc | apply pw_below_drewN | apply below_drew1) | exact HB.out)) hb); clear HB; have HB := n0_; clear n0_; (try clear hb); (try clear hb2); (try clear hk); (try clear hi)))
          go_roundg k1
          case measure => have := HK1.out; omega
          case rel => exact ⟨(wrap64 (x4_1 + 1)), (by first | rfl | (simp; done) | (simp [*]; done)), H', ⟨by have := HK1.out; omega⟩, ⟨by repeat (first | (with_reducible first | exact HB.out | apply below_alloc | apply pw_below_drewN | apply below_drew1) | exact HB.out)⟩⟩
      · rw [if_neg c2] at H
        have c2b0 : decide (x4_1 < 64) = false := decide_eq_false c2
        clear c2
        simp only [Option.some.injEq, Prod.mk.injEq] at H
        obtain ⟨rfl, rfl⟩ := H
        go_wp2
        go_ret2
        exact ⟨by first | rfl | (simp [errW_none, errW_some] <;> rfl) | (simp [*, errW_none, errW_some] <;> rfl), by repeat (first | (with_reducible first | exact HB.out | apply below_alloc | apply pw_below_drewN | apply below_drew1) | exact HB.out)⟩

end Go.Proofs.Ytaemgicmbnmecaa.PAll
