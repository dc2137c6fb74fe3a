/- Mix of the program is Mix of the reference, for all arguments. -/
import Derived.Test.YtmboppgpcppdjaaPFnExactMixx1
import Derived.Test.YtmboppgpcppdjaaAid
namespace Go.Proofs.Ytmboppgpcppdjaa.Pure
open Go.RowKit Go.Proofs.Ytmboppgpcppdjaa.PFnExactMix Go.Proofs.YtmboppgpcppdjaaW.PrintWords Go.Proofs.YtmboppgpcppdjaaW.PrintLast Go.Proofs.Ytmboppgpcppdjaa.Aid

theorem clip_is (a : Int) : spec_l2Clip.f a 1000000 = impl_limited.f a 0 1000000 := by
  unfold spec_l2Clip.f spec_l1Min.f spec_l1Max.f impl_limited.f mn mx
  by_cases h : a < 1000000
  · simp only [if_pos h, Option.bind_some]
    by_cases h2 : a < 0
    · rw [if_pos (by omega), if_pos h2]
      rfl
    · rw [if_neg (by omega), if_neg h2, if_neg (by omega)]
      rfl
  · simp only [if_neg h, Option.bind_some]
    rw [if_neg (by omega), if_neg (by omega : ¬ a < 0)]
    by_cases h2 : 1000000 < a
    · rw [if_pos h2]
      rfl
    · rw [if_neg h2, show a = 1000000 by omega]
      rfl
theorem FnExactMix : laws_FnExactMix.Pure := by
  intro a _
  unfold laws_FnExactMix.f spec_Mix.f impl_Mix.f
  rw [clip_is]
  unfold impl_limited.f
  simp

end Go.Proofs.Ytmboppgpcppdjaa.Pure
