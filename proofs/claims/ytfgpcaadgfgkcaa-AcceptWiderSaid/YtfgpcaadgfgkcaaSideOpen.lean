/- A side, or two, that come in as arguments, opened: their cells, their numbers' bounds. No conditions. -/
import Derived.Test.YtfgpcaadgfgkcaaSide
import Derived.Test.YtfgpcaadgfgkcaaOpens
import Derived.Test.YtfgpcaadgfgkcaaOpeners
import Derived.KernelRfl
namespace Go.Proofs.Ytfgpcaadgfgkcaa.SideOpen
open Go.RowKit Go.Proofs.YtfgpcaadgfgkcaaW.PrintWords Go.Proofs.YtfgpcaadgfgkcaaW.PrintLast Go.Proofs.Ytfgpcaadgfgkcaa.SeqnLem Go.Proofs.Ytfgpcaadgfgkcaa.Opens Go.Proofs.Ytfgpcaadgfgkcaa.Side
section
variable {H : Type} {enc : TypeId × Value → H} {w : World} {base : Nat} {spare : Nat → Bool} {held : Bool}
theorem op_side : Opn enc Try.prog w base spare held (Kd.iso (Kd.pair Kd.bool (Kd.pair (Kd.int .u32) (Kd.pair (Kd.int .u32) (Kd.pair (Kd.int .u32) (Kd.pair Kd.bool (Kd.pair (Kd.int .i64) (Kd.int .i64))))))) id)
    (fun x => True ∧ (Lit.int .u32 x.2.1).wf = true ∧ (Lit.int .u32 x.2.2.1).wf = true ∧ (Lit.int .u32 x.2.2.2.1).wf = true ∧ True ∧ (Lit.int .i64 x.2.2.2.2.2.1).wf = true ∧ (Lit.int .i64 x.2.2.2.2.2.2).wf = true) 24 :=
  op_struct id id (fun _ => rfl) Try.underlying24 (ts := [4, 22, 22, 22, 4, 3, 3]) rfl (by kernel_rfl) (by kernel_rfl)
    (opl_cons (op_bool Try.underlying4 (by kernel_rfl)) (opl_cons (op_int Try.underlying22 (by kernel_rfl)) (opl_cons (op_int Try.underlying22 (by kernel_rfl)) (opl_cons (op_int Try.underlying22 (by kernel_rfl)) (opl_cons (op_bool Try.underlying4 (by kernel_rfl)) (opl_cons (op_int Try.underlying3 (by kernel_rfl)) (opl_one (op_int Try.underlying3 (by kernel_rfl)))))))))
theorem open_side {r : Reach} {b0 : Nat} {v : Value} {d : DataW H} {p : List MemPlace} (hv : Value.okWide Try.prog w r b0 24 v) (h : DataW.Trod enc Try.prog w base spare held 24 v d p) : ∃ s : Sd, v = s.V ∧ s.Wf := by
  obtain ⟨cs, rfl, _⟩ := Go.WideShapes.okWide_struct Try.underlying24 hv
  obtain ⟨fuel, hf⟩ := h
  obtain ⟨⟨x0, x1, x2, x3, x4, x5, x6⟩, hk, hw⟩ := op_side.2 _ _ _ hf
  obtain ⟨_, _, e, rfl, _, _, rfl, rfl, _, _, rfl, rfl, _, _, rfl, rfl, _, _, rfl, rfl, _, _, rfl, rfl, rfl⟩ := hk
  obtain ⟨_, h1, h2, h3, _, h5, h6⟩ := hw
  refine ⟨⟨x0, x1, x2, x3, x4, x5, x6⟩, ?_, ⟨u32_b h1, u32_b h2, u32_b h3, i64_b h5, i64_b h6⟩⟩
  have e' : cs.toList = (#[.bool x0, .int .u32 x1, .int .u32 x2, .int .u32 x3, .bool x4, .int .i64 x5, .int .i64 x6] : Array Value).toList := e
  rw [Array.toList_inj.1 e']
  rfl
theorem open_2side {r : Reach} {b0 : Nat} {v : Value} {d : DataW H} {p : List MemPlace} (hv : Value.okWide Try.prog w r b0 41 v) (h : DataW.Trod enc Try.prog w base spare held 41 v d p) :
    ∃ s r : Sd, v = .agg #[.bool s.on, .int .u32 s.fin, .int .u32 s.max, .int .u32 s.ack, .bool s.has, .int .i64 s.win, .int .i64 s.scale, .bool r.on, .int .u32 r.fin, .int .u32 r.max, .int .u32 r.ack, .bool r.has, .int .i64 r.win, .int .i64 r.scale] ∧ s.Wf ∧ r.Wf := by
  obtain ⟨cs, rfl, _⟩ := Openers.okWide_array Try.underlying41 hv
  obtain ⟨fuel, hf⟩ := h
  obtain ⟨⟨⟨x0, x1, x2, x3, x4, x5, x6⟩, ⟨y0, y1, y2, y3, y4, y5, y6⟩⟩, hk, hw⟩ := (op_array (m := 2) id id (fun _ => rfl) Try.underlying41 (by kernel_rfl) (opl_cons op_side (opl_one op_side))).2 _ _ _ hf
  obtain ⟨_, _, e, ⟨_, _, rfl, rfl, _, _, rfl, rfl, _, _, rfl, rfl, _, _, rfl, rfl, _, _, rfl, rfl, _, _, rfl, rfl, rfl⟩, _, _, rfl, rfl, _, _, rfl, rfl, _, _, rfl, rfl, _, _, rfl, rfl, _, _, rfl, rfl, _, _, rfl, rfl, rfl⟩ := hk
  obtain ⟨⟨_, h1, h2, h3, _, h5, h6⟩, _, g1, g2, g3, _, g5, g6⟩ := hw
  refine ⟨⟨x0, x1, x2, x3, x4, x5, x6⟩, ⟨y0, y1, y2, y3, y4, y5, y6⟩, ?_, ⟨u32_b h1, u32_b h2, u32_b h3, i64_b h5, i64_b h6⟩, ⟨u32_b g1, u32_b g2, u32_b g3, i64_b g5, i64_b g6⟩⟩
  have e' : cs.toList = (#[.bool x0, .int .u32 x1, .int .u32 x2, .int .u32 x3, .bool x4, .int .i64 x5, .int .i64 x6, .bool y0, .int .u32 y1, .int .u32 y2, .int .u32 y3, .bool y4, .int .i64 y5, .int .i64 y6] : Array Value).toList := e
  rw [Array.toList_inj.1 e']
end
end Go.Proofs.Ytfgpcaadgfgkcaa.SideOpen
