/- For any two numbers of 32 bits and any int, the program's functions of seqn answer as the reference's do, and the fixed calls come out as written; no condition. This text: the walk of the law. -/
import Derived.Test.YtbmekfammbfadaaPAllx1
import Derived.Test.YtbmekfammbfadaaPAllx2
import Derived.Test.YtbmekfammbfadaaSeqnLem
namespace Go.Proofs.Ytbmekfammbfadaa.WSeqnTells
open Go.RowKit Go.Proofs.Ytbmekfammbfadaa.PAll Go.Proofs.YtbmekfammbfadaaW.PrintWords Go.Proofs.YtbmekfammbfadaaW.PrintLast Go.Proofs.Ytbmekfammbfadaa.SeqnLem
set_option linter.unusedVariables false
set_option linter.unusedSimpArgs false
theorem known03 : rampartlaw03_known.f = some true := by decide +kernel
set_option maxHeartbeats 8000000 in
set_option maxRecDepth 100000 in
theorem walk {w : World} (a : Int) (wa : (Lit.int .u32 a).wf = true) (b : Int) (wb : (Lit.int .u32 b).wf = true) (n : Int) (wn : (Lit.int .i64 n).wf = true) :
    Calls Try.prog 3 #[.int .u32 a, .int .u32 b, .int .i64 n] w fun e w' => e = .returned (.bool true) ∧ Below w.heap.size w w' := by
  have ha := u32_b wa
  have hb := u32_b wb
  clear wa wb wn
  obtain ⟨g, h1, h2⟩ : ∃ r : Int, seqn_Gap.f a b = some r ∧ rampartref03_Gap.f a b = some r := ⟨_, gap_f a b, rgap_f ha hb⟩
  have Kg := Aside0.mk h1
  have Lg := Aside0.mk h2
  clear h1 h2
  obtain ⟨t1, h1, h2⟩ : ∃ r : Bool, seqn_Before.f a b = some r ∧ rampartref03_Before.f a b = some r := ⟨_, before_f a b, rbefore_f ha hb⟩
  have Kt1 := Aside0.mk h1
  have Lt1 := Aside0.mk h2
  clear h1 h2
  obtain ⟨t2, h1, h2⟩ : ∃ r : Bool, seqn_Upto.f a b = some r ∧ rampartref03_Upto.f a b = some r := ⟨_, upto_f a b, rupto_f ha hb⟩
  have Kt2 := Aside0.mk h1
  have Lt2 := Aside0.mk h2
  clear h1 h2
  obtain ⟨l, h1, h2⟩ : ∃ r : Int, seqn_Later.f a b = some r ∧ rampartref03_Later.f a b = some r := ⟨_, later_f a b, rlater_f ha hb⟩
  have Kl := Aside0.mk h1
  have Ll := Aside0.mk h2
  clear h1 h2
  obtain ⟨t3, h1, h2⟩ : ∃ r : Bool, seqn_Within.f a b n = some r ∧ rampartref03_Within.f a b n = some r := ⟨_, within_f a b n, rwithin_f ha hb⟩
  have Kt3 := Aside0.mk h1
  have Lt3 := Aside0.mk h2
  clear h1 h2
  obtain ⟨m, h1, h2⟩ : ∃ r : Int, seqn_Near.f n a = some r ∧ rampartref03_Near.f 1 n a = some r := ⟨_, near_f n a, rnear_f 0 ha⟩
  have Km := Aside0.mk h1
  have Lm := Aside0.mk h2
  clear h1 h2
  obtain ⟨s, h1, h2⟩ : ∃ r : Int, seqn_Step.f a n = some r ∧ rampartref03_Step.f a n = some r := ⟨_, step_f a n, rstep_f ha⟩
  have Ks := Aside0.mk h1
  have Ls := Aside0.mk h2
  clear h1 h2
  go_enter Try.func3, Try.ntmps3
  go_wp2_with (fail)
  refine (seqn_Gap.calls a b _ _ Kg.out).mono ?_
  rintro e w' ⟨rfl, ⟨n1, rfl⟩⟩
  go_wp2_with (fail)
  refine (rampartref03_Gap.calls a b _ _ Lg.out).mono ?_
  rintro e w' ⟨rfl, ⟨n2, rfl⟩⟩
  go_wp2_with (fail)
  refine (seqn_Before.calls a b _ _ Kt1.out).mono ?_
  rintro e w' ⟨rfl, ⟨n3, rfl⟩⟩
  go_wp2_with (fail)
  refine (rampartref03_Before.calls a b _ _ Lt1.out).mono ?_
  rintro e w' ⟨rfl, ⟨n4, rfl⟩⟩
  go_wp2_with (fail)
  refine (seqn_Upto.calls a b _ _ Kt2.out).mono ?_
  rintro e w' ⟨rfl, ⟨n5, rfl⟩⟩
  go_wp2_with (fail)
  refine (rampartref03_Upto.calls a b _ _ Lt2.out).mono ?_
  rintro e w' ⟨rfl, ⟨n6, rfl⟩⟩
  go_wp2_with (fail)
  refine (seqn_Later.calls a b _ _ Kl.out).mono ?_
  rintro e w' ⟨rfl, ⟨n7, rfl⟩⟩
  go_wp2_with (fail)
  refine (rampartref03_Later.calls a b _ _ Ll.out).mono ?_
  rintro e w' ⟨rfl, ⟨n8, rfl⟩⟩
  go_wp2_with (fail)
  refine (seqn_Within.calls a b n _ _ Kt3.out).mono ?_
  rintro e w' ⟨rfl, ⟨n9, rfl⟩⟩
  go_wp2_with (fail)
  refine (rampartref03_Within.calls a b n _ _ Lt3.out).mono ?_
  rintro e w' ⟨rfl, ⟨n10, rfl⟩⟩
  go_wp2_with (fail)
  refine (seqn_Near.calls n a _ _ Km.out).mono ?_
  rintro e w' ⟨rfl, ⟨n11, rfl⟩⟩
  go_wp2_with (fail)
  refine (rampartref03_Near.calls 1 n a _ _ Lm.out).mono ?_
  rintro e w' ⟨rfl, ⟨n12, rfl⟩⟩
  go_wp2_with (fail)
  refine (seqn_Step.calls a n _ _ Ks.out).mono ?_
  rintro e w' ⟨rfl, ⟨n13, rfl⟩⟩
  go_wp2_with (fail)
  refine (rampartref03_Step.calls a n _ _ Ls.out).mono ?_
  rintro e w' ⟨rfl, ⟨n14, rfl⟩⟩
  go_wp2_with (fail)
  refine (rampartlaw03_known.calls _ _ known03).mono ?_
  rintro e w' ⟨rfl, ⟨n15, rfl⟩⟩
  go_wp2
  go_ret
  exact ⟨rfl, by repeat (first | exact Below.refl _ _ | apply pw_below_drewN)⟩
end Go.Proofs.Ytbmekfammbfadaa.WSeqnTells
