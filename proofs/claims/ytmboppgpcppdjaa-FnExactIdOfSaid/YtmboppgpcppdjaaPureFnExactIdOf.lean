/- IdOf of the program is IdOf of the reference, for all arguments. -/
import Derived.Test.YtmboppgpcppdjaaPFnExactIdOfx1
namespace Go.Proofs.Ytmboppgpcppdjaa.Pure
open Go.RowKit Go.Proofs.Ytmboppgpcppdjaa.PFnExactIdOf Go.Proofs.YtmboppgpcppdjaaW.PrintWords Go.Proofs.YtmboppgpcppdjaaW.PrintLast

theorem idof_same (a b : Int) : spec_IdOf.f a b = impl_IdOf.f a b := by
  unfold spec_IdOf.f impl_IdOf.f spec_l6Agent.f
  have h : ∀ x y z, spec_l1In.f x y z = impl_within.f x y z := fun _ _ _ => rfl
  simp only [h]
  cases impl_within.f a 0 2 <;> simp
theorem idof_some (a b : Int) : ∃ r, impl_IdOf.f a b = some r := by
  unfold impl_IdOf.f impl_within.f
  repeat (first | exact ⟨_, rfl⟩ | (simp only [Option.bind_some]; split) | split)
theorem FnExactIdOf : laws_FnExactIdOf.Pure := by
  intro a b _ _
  unfold laws_FnExactIdOf.f
  obtain ⟨r, hr⟩ := idof_some a b
  rw [idof_same, hr]
  simp

end Go.Proofs.Ytmboppgpcppdjaa.Pure
