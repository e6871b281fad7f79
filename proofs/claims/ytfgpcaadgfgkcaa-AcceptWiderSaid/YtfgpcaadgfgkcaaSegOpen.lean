/- A segment that comes in as an argument, opened: its cells, what its blocks read, its numbers' bounds. No conditions. -/
import Derived.Test.YtfgpcaadgfgkcaaEdge
import Derived.Test.YtfgpcaadgfgkcaaOpens
import Derived.KernelRfl
namespace Go.Proofs.Ytfgpcaadgfgkcaa.SegOpen
open Go.RowKit Go.Proofs.Ytfgpcaadgfgkcaa.PAll Go.Proofs.YtfgpcaadgfgkcaaW.PrintWords Go.Proofs.YtfgpcaadgfgkcaaW.PrintLast Go.Proofs.Ytfgpcaadgfgkcaa.SeqnLem Go.Proofs.Ytfgpcaadgfgkcaa.Opens Go.Proofs.Ytfgpcaadgfgkcaa.Edge
section
variable {H : Type} {enc : TypeId × Value → H} {w : World} {base : Nat} {spare : Nat → Bool} {held : Bool}
theorem op_block : Opn enc Try.prog w base spare held k44 (fun b => (Lit.int .u32 b.f0).wf = true ∧ (Lit.int .u32 b.f1).wf = true) 44 :=
  op_struct (fun x : Blk => (x.f0, x.f1)) (fun x => ⟨x.1, x.2⟩) (fun _ => rfl) Try.underlying44 (ts := [22, 22]) rfl (by kernel_rfl) (by kernel_rfl)
    (opl_cons (op_int Try.underlying22 (by kernel_rfl)) (opl_one (op_int Try.underlying22 (by kernel_rfl))))
theorem op_opts : Opn enc Try.prog w base spare held (Kd.iso (Kd.pair (Kd.int .i64) (Kd.pair (Kd.int .i64) (Kd.pair Kd.bool (Kd.pair (Kd.slice 44 k44) (Kd.pair Kd.bool (Kd.pair (Kd.int .u32) (Kd.int .u32))))))) id) (fun x => (Lit.int .i64 x.1).wf = true ∧ (Lit.int .i64 x.2.1).wf = true ∧ True ∧ (x.2.2.2.1.length ≤ maxLen ∧ ∀ a, a ∈ x.2.2.2.1 → (Lit.int .u32 a.f0).wf = true ∧ (Lit.int .u32 a.f1).wf = true) ∧ True ∧ (Lit.int .u32 x.2.2.2.2.2.1).wf = true ∧ (Lit.int .u32 x.2.2.2.2.2.2).wf = true) 27 :=
  op_struct id id (fun _ => rfl) Try.underlying27 (ts := [3, 3, 4, 25, 4, 22, 22]) rfl (by kernel_rfl) (by kernel_rfl)
    (opl_cons (op_int Try.underlying3 (by kernel_rfl)) (opl_cons (op_int Try.underlying3 (by kernel_rfl)) (opl_cons (op_bool Try.underlying4 (by kernel_rfl)) (opl_cons (op_slice Try.underlying25 (by kernel_rfl) op_block) (opl_cons (op_bool Try.underlying4 (by kernel_rfl)) (opl_cons (op_int Try.underlying22 (by kernel_rfl)) (opl_one (op_int Try.underlying22 (by kernel_rfl)))))))))
theorem op_seg : Opn enc Try.prog w base spare held (Kd.iso (Kd.pair (Kd.int .i64) (Kd.pair (Kd.int .i64) (Kd.pair (Kd.int .u32) (Kd.pair (Kd.int .u32) (Kd.pair (Kd.int .i64) (Kd.pair (Kd.int .i64) (Kd.pair (Kd.int .i64) (Kd.pair (Kd.iso (Kd.pair (Kd.int .i64) (Kd.pair (Kd.int .i64) (Kd.pair Kd.bool (Kd.pair (Kd.slice 44 k44) (Kd.pair Kd.bool (Kd.pair (Kd.int .u32) (Kd.int .u32))))))) id) Kd.string)))))))) id) (fun x => (Lit.int .i64 x.1).wf = true ∧ (Lit.int .i64 x.2.1).wf = true ∧ (Lit.int .u32 x.2.2.1).wf = true ∧ (Lit.int .u32 x.2.2.2.1).wf = true ∧ (Lit.int .i64 x.2.2.2.2.1).wf = true ∧ (Lit.int .i64 x.2.2.2.2.2.1).wf = true ∧ (Lit.int .i64 x.2.2.2.2.2.2.1).wf = true ∧ (fun x => (Lit.int .i64 x.1).wf = true ∧ (Lit.int .i64 x.2.1).wf = true ∧ True ∧ (x.2.2.2.1.length ≤ maxLen ∧ ∀ a, a ∈ x.2.2.2.1 → (Lit.int .u32 a.f0).wf = true ∧ (Lit.int .u32 a.f1).wf = true) ∧ True ∧ (Lit.int .u32 x.2.2.2.2.2.1).wf = true ∧ (Lit.int .u32 x.2.2.2.2.2.2).wf = true) x.2.2.2.2.2.2.2.1 ∧ x.2.2.2.2.2.2.2.2.size ≤ maxLen) 29 :=
  op_struct id id (fun _ => rfl) Try.underlying29 (ts := [3, 3, 22, 22, 3, 3, 3, 27, 9]) rfl (by kernel_rfl) (by kernel_rfl)
    (opl_cons (op_int Try.underlying3 (by kernel_rfl)) (opl_cons (op_int Try.underlying3 (by kernel_rfl)) (opl_cons (op_int Try.underlying22 (by kernel_rfl)) (opl_cons (op_int Try.underlying22 (by kernel_rfl)) (opl_cons (op_int Try.underlying3 (by kernel_rfl)) (opl_cons (op_int Try.underlying3 (by kernel_rfl)) (opl_cons (op_int Try.underlying3 (by kernel_rfl)) (opl_cons op_opts (opl_one (op_string Try.underlying9 (by kernel_rfl)))))))))))
theorem seg_of_K {cs : List Value} {fuel : Nat} {x : DataW H × List MemPlace} (h : DataW.trod enc Try.prog w base spare held fuel 29 cs = some x) :
    ∃ (s : Sg) (A : Option Addr) (c : Nat), cs = (s.C A c).toList ∧ s.Ok A c w ∧ s.Wf := by
  obtain ⟨a, hk, hw⟩ := op_seg.2 _ _ _ h
  obtain ⟨x0, x1, x2, x3, x4, x5, x6, ⟨y0, y1, y2, y3, y4, y5, y6⟩, x8⟩ := a
  obtain ⟨_, _, rfl, rfl, _, _, rfl, rfl, _, _, rfl, rfl, _, _, rfl, rfl, _, _, rfl, rfl, _, _, rfl, rfl, _, _, rfl, rfl, _, _, rfl, ⟨_, _, rfl, rfl, _, _, rfl, rfl, _, _, rfl, rfl, _, _, rfl, ⟨A, c, rfl, hl, hC⟩, _, _, rfl, rfl, _, _, rfl, rfl, rfl⟩, rfl⟩ := hk
  obtain ⟨h0, h1, h2, h3, h4, h5, h6, ⟨g0, g1, _, ⟨_, g3⟩, _, g5, g6⟩, h8⟩ := hw
  exact ⟨⟨x0, x1, x2, x3, x4, x5, x6, y0, y1, y2, y3, y4, y5, y6, x8⟩, A, c, rfl, ⟨hC, hl⟩, ⟨u32_b h2, u32_b h3, i64_b h4, i64_b h5, i64_b g1, fun b hb => ⟨u32_b (g3 b hb).1, u32_b (g3 b hb).2⟩, h0, h1, h6, g0, g5, g6⟩⟩
theorem open_seg {r : Reach} {b0 : Nat} {v : Value} {d : DataW H} {p : List MemPlace} (hv : Value.okWide Try.prog w r b0 29 v) (h : DataW.Trod enc Try.prog w base spare held 29 v d p) :
    ∃ (s : Sg) (A : Option Addr) (c : Nat), v = s.V A c ∧ s.Ok A c w ∧ s.Wf := by
  obtain ⟨cs, rfl, _⟩ := Go.WideShapes.okWide_struct Try.underlying29 hv
  obtain ⟨fuel, hf⟩ := h
  obtain ⟨s, A, c, hc, h1, h2⟩ := seg_of_K hf
  refine ⟨s, A, c, ?_, h1, h2⟩
  have : cs.toList = (s.C A c).toList := hc
  show Value.agg cs = Value.agg (s.C A c)
  rw [Array.toList_inj.1 this]
end
end Go.Proofs.Ytfgpcaadgfgkcaa.SegOpen
