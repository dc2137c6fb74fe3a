/- Add of the program is Add of the reference, for all arguments. -/
import Derived.Test.YtmboppgpcppdjaaPFnExactAddx1
import Derived.Test.YtmboppgpcppdjaaAid
namespace Go.Proofs.Ytmboppgpcppdjaa.Pure
open Go.RowKit Go.Proofs.Ytmboppgpcppdjaa.PFnExactAdd Go.Proofs.YtmboppgpcppdjaaW.PrintWords Go.Proofs.YtmboppgpcppdjaaW.PrintLast Go.Proofs.Ytmboppgpcppdjaa.Aid

theorem clip_is (a m : Int) : spec_l2Clip.f a m = some (if 0 > (if a < m then a else m) then 0 else (if a < m then a else m)) := by
  unfold spec_l2Clip.f spec_l1Min.f spec_l1Max.f
  by_cases h : a < m
  · simp only [if_pos h, Option.bind_some]
    split <;> rfl
  · simp only [if_neg h, Option.bind_some]
    split <;> rfl
theorem add_same (a b : Int) : spec_Add.f a b = impl_Add.f a b := by
  unfold spec_Add.f impl_Add.f impl_limited.f
  simp only [clip_is, Option.bind_some]
  unfold spec_l1Min.f mn mx
  have e : ∀ x : Int, (if 0 > (if x < 1000000000 then x else 1000000000) then 0 else (if x < 1000000000 then x else 1000000000)) = (if 1000000000 < (if x < 0 then 0 else x) then 1000000000 else (if x < 0 then 0 else x)) := by
    intro x
    repeat' split
    all_goals omega
  rw [e a, e b]
  generalize wrap64 _ = z
  by_cases h : z < 1000000000
  · rw [if_pos h, if_neg (by omega)]
    rfl
  · rw [if_neg h]
    by_cases h2 : 1000000000 < z
    · rw [if_pos h2]
      rfl
    · rw [if_neg h2, show z = 1000000000 by omega]
      rfl
theorem FnExactAdd : laws_FnExactAdd.Pure := by
  intro a b _ _
  unfold laws_FnExactAdd.f
  rw [add_same]
  unfold impl_Add.f impl_limited.f
  simp

end Go.Proofs.Ytmboppgpcppdjaa.Pure
