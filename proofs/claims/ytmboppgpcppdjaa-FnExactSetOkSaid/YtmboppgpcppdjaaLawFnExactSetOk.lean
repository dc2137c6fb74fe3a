-- Written by this session's changed copy of the kit's printer (wip/patch_print.py): not the kit's own print.
import Derived.Test.YtmboppgpcppdjaaRows
import Derived.Test.YtmboppgpcppdjaaPFnExactSetOkx4
import Derived.Test.YtmboppgpcppdjaaPureFnExactSetOk
import Derived.Test.YtmboppgpcppdjaaOpen
import Derived.WalkKit
import Derived.ProofKit
import Derived.OpenShut
import Derived.ShutString
import Derived.ChangeOld
import Derived.Below
import Derived.SizedLaws
namespace Go.Proofs.Ytmboppgpcppdjaa.fnExactSetOk
open Go.ChangeShapes Go.WideShapes Go.ChangeAt Go.RowKit Go.Proofs.Ytmboppgpcppdjaa.Open Go.Proofs.Ytmboppgpcppdjaa.PFnExactSetOk Go.Proofs.YtmboppgpcppdjaaW.PrintWords
open Go.ChangeMaps (open_string shut_string)
set_option linter.unusedVariables false
theorem own : ownKnob Try.prog.godebug = none := by kernel_rfl
theorem laidOut : laidOutB Try.prog = true := by kernel_rfl
theorem opens68 : Opens Try.prog 68 k68 good68 :=
  opens_struct (fun x : S68 => (x.f0, x.f1)) (fun a => ⟨a.1, a.2⟩) (fun _ => rfl) Try.underlying68 (by kernel_rfl) (.more rfl (opens_int Try.underlying3 (by kernel_rfl)) (.one rfl (opens_int Try.underlying3 (by kernel_rfl))))
set_option maxRecDepth 100000 in
theorem lifted (os : Os) (started : os.Started) (H : Type) (enc : TypeId × Value → H) :
    ReturnsInHanded {} Try.checked os 12 .any (Rows.fnExactSetOkSpec.pre6 enc Try.prog Try.f12 Rows.fnExactSetOkRow.domain false) (Rows.fnExactSetOkSpec.post enc Try.prog Try.f12 false true false false) := by
  refine returnsInHanded_of_change_sized (C := Try.checked) own started (by kernel_rfl) Try.func12
    (ChangeSpec.witness6 (enc := enc) (C := Try.checked) false ⟨#[], #[.slice none 0 0], []⟩ 8 (by kernel_rfl) (by kernel_rfl) (by kernel_rfl) (by kernel_rfl)) ?_
  intro W base args ds gs before hval0 hW hcnd hsz0 _
  have hval : ∀ (j : Nat) t v, Try.f12.params[j]? = some t → args[j]? = some v → Value.okWide Try.prog W .any base t v := hval0
  have hW' := hW
  obtain ⟨p, q, hA0, hV, rfl, hfz, hnd⟩ := hW
  have hA : DataW.TrodAll enc Try.prog W 0 (fun _ => true) true Try.f12.params.toList args.toList ds p := hA0
  rw [Try.params12] at hA hval
  obtain ⟨v0, vs0, d0, ds0, p0, q0, hargs, rfl, rfl, h0, r0⟩ := trodAll_cons hA
  obtain ⟨rfl, rfl, rfl⟩ := trodAll_nil r0
  obtain rfl : args = #[v0] := by cases args; simp_all
  obtain ⟨rfl, rfl⟩ := trodVars_none hV
  obtain ⟨aa0, len0, cap0, rfl⟩ := okWide_slice Try.underlying47 (hval 0 47 v0 rfl rfl)
  have k0 := h0
  have lt0 : ∀ x ∈ p0, x.block < W.heap.size := by obtain ⟨m, hm⟩ := k0; exact DataW.trod_lt m _ _ _ hm
  obtain ⟨fu0, hf0⟩ := h0
  obtain ⟨l0, ⟨A0, c0, hcs0, hl0, hC0⟩, hg0⟩ := (opens_slice Try.underlying47 (by kernel_rfl) opens68).2 enc W 0 _ true fu0 _ _ hf0
  have e0 : Value.slice aa0 len0 cap0 = Value.slice A0 l0.length c0 := (List.cons.inj hcs0).1
  injection e0 with ea0 eb0 ec0
  subst ea0 eb0 ec0
  clear hA0 hval0 hsz0
  obtain ⟨k, hk⟩ := Pure.FnExactSetOk l0 hg0
  refine (laws_FnExactSetOk.calls k _ _ l0 true W hC0 hl0 hk).mono fun e W' ⟨he, bel0⟩ => ?_
  have bel := bel0
  subst he
  exact ⟨_, rfl, _, _, _, [], _, [], hW', trodAll_mk1 (shut_bool Try.underlying4 _), (trodAll_cons_mk (Below.trod laidOut (by kernel_rfl) (of_decide_eq_true (by kernel_rfl)) k0 bel lt0) trodAll_mk0), rfl, bel.frame _, fun h => by cases h⟩
theorem over : Rows.fnExactSetOkRow.holds Try.pinned (OpenSpec.ofChange Rows.fnExactSetOkSpec) :=
  OpenClaim.holds_of_wide 12 Try.f12 rfl rfl rfl rfl rfl rfl rfl ⟨rfl, rfl, rfl, rfl, rfl⟩ rfl rfl rfl rfl rfl (by kernel_rfl) Try.func12 (by kernel_rfl)
    (of_decide_eq_true (by kernel_rfl)) (by unfold Func.isWrapper; first | (rw [if_pos (by decide +kernel)]; kernel_rfl) | (rw [if_neg (by decide +kernel)]; exact ⟨rfl, rfl⟩))
    (fun os started H enc _ => lifted os started H enc)
theorem proved : Rows.FnExactSetOkSaid := over
#print axioms proved
end Go.Proofs.Ytmboppgpcppdjaa.fnExactSetOk
namespace Go.Proofs.Ytmboppgpcppdjaa
/-- The row, under a short name, for the claim. -/
theorem fnExactSetOk_holds : Rows.FnExactSetOkSaid := fnExactSetOk.proved
end Go.Proofs.Ytmboppgpcppdjaa
