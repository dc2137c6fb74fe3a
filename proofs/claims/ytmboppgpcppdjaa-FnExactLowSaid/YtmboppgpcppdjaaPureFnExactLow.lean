/- Low of the program is Low of the reference, for all arguments. -/
import Derived.Test.YtmboppgpcppdjaaPFnExactLowx1
import Derived.Test.YtmboppgpcppdjaaAid
namespace Go.Proofs.Ytmboppgpcppdjaa.Pure
open Go.RowKit Go.Proofs.Ytmboppgpcppdjaa.PFnExactLow Go.Proofs.YtmboppgpcppdjaaW.PrintWords Go.Proofs.YtmboppgpcppdjaaW.PrintLast Go.Proofs.Ytmboppgpcppdjaa.Aid

theorem FnExactLow : laws_FnExactLow.Pure := by
  intro a h
  have := wf64 h
  by_cases hr : 0 ≤ a ∧ a ≤ 7
  · have : a = 0 ∨ a = 1 ∨ a = 2 ∨ a = 3 ∨ a = 4 ∨ a = 5 ∨ a = 6 ∨ a = 7 := by omega
    rcases this with rfl | rfl | rfl | rfl | rfl | rfl | rfl | rfl <;> decide +kernel
  · unfold laws_FnExactLow.f spec_Low.f impl_Low.f spec_l1In.f impl_within.f
    simp only [Option.bind_some, List.length_cons, List.length_nil]
    have h8 : wrap64 ((((0 + 1 + 1 + 1 + 1 + 1 + 1 + 1 + 1 : Nat)) : Int) - 1) = 7 := by unfold wrap64; omega
    simp only [h8]
    rw [if_neg (by omega : ¬ a = 0)]
    by_cases h0 : a ≥ 0
    · rw [if_pos h0, if_pos (by omega : a ≥ 1)]
      simp [show ¬ a ≤ 7 by omega]
    · rw [if_neg h0, if_neg (by omega : ¬ a ≥ 1)]
      simp

end Go.Proofs.Ytmboppgpcppdjaa.Pure
