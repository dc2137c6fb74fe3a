-- Written by this session's changed copy of the kit's printer (wip/patch_print.py): not the kit's own print.
import Derived.Test.YtfknjoebomicnaaRows
import Derived.Test.YtfknjoebomicnaaHandFnExactMerge
import Derived.Test.YtfknjoebomicnaaOpen
import Derived.WalkKit
import Derived.ProofKit
import Derived.OpenShut
import Derived.ShutString
import Derived.ChangeOld
import Derived.Below
import Derived.SizedLaws
namespace Go.Proofs.Ytfknjoebomicnaa.fnExactMerge
open Go.ChangeShapes Go.WideShapes Go.ChangeAt Go.RowKit Go.Proofs.Ytfknjoebomicnaa.Open Go.Proofs.Ytfknjoebomicnaa.PFnExactMerge Go.Proofs.YtfknjoebomicnaaW.PrintWords
open Go.ChangeMaps (open_string shut_string)
set_option linter.unusedVariables false
theorem own : ownKnob Try.prog.godebug = none := by kernel_rfl
theorem laidOut : laidOutB Try.prog = true := by kernel_rfl
set_option maxRecDepth 100000 in
theorem lifted (os : Os) (started : os.Started) (H : Type) (enc : TypeId × Value → H) :
    ReturnsInHanded {} Try.checked os 4 .any (Rows.fnExactMergeSpec.pre6 enc Try.prog Try.f4 Rows.fnExactMergeRow.domain false) (Rows.fnExactMergeSpec.post enc Try.prog Try.f4 false true false false) := by
  refine returnsInHanded_of_change_sized (C := Try.checked) own started (by kernel_rfl) Try.func4
    (ChangeSpec.witness6 (enc := enc) (C := Try.checked) false ⟨#[], #[.agg #[.int .i64 0, .int .i64 0, .int .i64 0, .int .i64 0, .slice none 0 0, .slice none 0 0, .slice none 0 0], .agg #[.int .i64 0, .int .i64 0, .int .i64 0, .int .i64 0, .slice none 0 0, .slice none 0 0, .slice none 0 0]], []⟩ 8 (by kernel_rfl) (by kernel_rfl) (by kernel_rfl) (by kernel_rfl)) ?_
  intro W base args ds gs before hval0 hW hcnd hsz0 _
  have hval : ∀ (j : Nat) t v, Try.f4.params[j]? = some t → args[j]? = some v → Value.okWide Try.prog W .any base t v := hval0
  have hW' := hW
  obtain ⟨p, q, hA0, hV, rfl, hfz, hnd⟩ := hW
  have hA : DataW.TrodAll enc Try.prog W 0 (fun _ => true) true Try.f4.params.toList args.toList ds p := hA0
  rw [Try.params4] at hA hval
  obtain ⟨v0, vs0, d0, ds0, p0, q0, hargs, rfl, rfl, h0, r0⟩ := trodAll_cons hA
  obtain ⟨v1, vs1, d1, ds1, p1, q1, rfl, rfl, rfl, h1, r1⟩ := trodAll_cons r0
  obtain ⟨rfl, rfl, rfl⟩ := trodAll_nil r1
  obtain rfl : args = #[v0, v1] := by cases args; simp_all
  obtain ⟨rfl, rfl⟩ := trodVars_none hV
  obtain ⟨⟨cs0⟩, rfl, _⟩ := okWide_struct Try.underlying35 (hval 0 35 v0 rfl rfl)
  have k0 := h0
  have lt0 : ∀ x ∈ p0, x.block < W.heap.size := by obtain ⟨m, hm⟩ := k0; exact DataW.trod_lt m _ _ _ hm
  obtain ⟨fu0, hf0⟩ := h0
  obtain ⟨⟨a0_0, a0_1, a0_2, a0_3, l0_4, l0_5, l0_6⟩, ⟨_, _, hcs0, rfl, ⟨_, _, rfl, rfl, ⟨_, _, rfl, rfl, ⟨_, _, rfl, rfl, ⟨_, _, rfl, ⟨A0_4, c0_4, rfl, hl0_4, hC0_4⟩, ⟨_, _, rfl, ⟨A0_5, c0_5, rfl, hl0_5, hC0_5⟩, ⟨A0_6, c0_6, rfl, hl0_6, hC0_6⟩⟩⟩⟩⟩⟩⟩, ⟨g0_0, g0_1, g0_2, g0_3, g0_4, g0_5, g0_6⟩⟩ := (opens_struct0 Try.underlying35 (by kernel_rfl) (.more rfl (opens_int Try.underlying3 (by kernel_rfl)) (.more rfl (opens_int Try.underlying3 (by kernel_rfl)) (.more rfl (opens_int Try.underlying3 (by kernel_rfl)) (.more rfl (opens_int Try.underlying3 (by kernel_rfl)) (.more rfl (opens_slice Try.underlying23 (by kernel_rfl) (opens_int Try.underlying3 (by kernel_rfl))) (.more rfl (opens_slice Try.underlying23 (by kernel_rfl) (opens_int Try.underlying3 (by kernel_rfl))) (.one rfl (opens_slice Try.underlying24 (by kernel_rfl) (opens_slice Try.underlying23 (by kernel_rfl) (opens_int Try.underlying3 (by kernel_rfl)))))))))))).2 enc W 0 _ true fu0 _ _ hf0
  have e0 : cs0 = [Value.int .i64 a0_0, Value.int .i64 a0_1, Value.int .i64 a0_2, Value.int .i64 a0_3, Value.slice A0_4 l0_4.length c0_4, Value.slice A0_5 l0_5.length c0_5, Value.slice A0_6 l0_6.length c0_6] := hcs0
  subst e0
  obtain ⟨⟨cs1⟩, rfl, _⟩ := okWide_struct Try.underlying35 (hval 1 35 v1 rfl rfl)
  have k1 := h1
  have lt1 : ∀ x ∈ p1, x.block < W.heap.size := by obtain ⟨m, hm⟩ := k1; exact DataW.trod_lt m _ _ _ hm
  obtain ⟨fu1, hf1⟩ := h1
  obtain ⟨⟨a1_0, a1_1, a1_2, a1_3, l1_4, l1_5, l1_6⟩, ⟨_, _, hcs1, rfl, ⟨_, _, rfl, rfl, ⟨_, _, rfl, rfl, ⟨_, _, rfl, rfl, ⟨_, _, rfl, ⟨A1_4, c1_4, rfl, hl1_4, hC1_4⟩, ⟨_, _, rfl, ⟨A1_5, c1_5, rfl, hl1_5, hC1_5⟩, ⟨A1_6, c1_6, rfl, hl1_6, hC1_6⟩⟩⟩⟩⟩⟩⟩, ⟨g1_0, g1_1, g1_2, g1_3, g1_4, g1_5, g1_6⟩⟩ := (opens_struct0 Try.underlying35 (by kernel_rfl) (.more rfl (opens_int Try.underlying3 (by kernel_rfl)) (.more rfl (opens_int Try.underlying3 (by kernel_rfl)) (.more rfl (opens_int Try.underlying3 (by kernel_rfl)) (.more rfl (opens_int Try.underlying3 (by kernel_rfl)) (.more rfl (opens_slice Try.underlying23 (by kernel_rfl) (opens_int Try.underlying3 (by kernel_rfl))) (.more rfl (opens_slice Try.underlying23 (by kernel_rfl) (opens_int Try.underlying3 (by kernel_rfl))) (.one rfl (opens_slice Try.underlying24 (by kernel_rfl) (opens_slice Try.underlying23 (by kernel_rfl) (opens_int Try.underlying3 (by kernel_rfl)))))))))))).2 enc W 0 _ true fu1 _ _ hf1
  have e1 : cs1 = [Value.int .i64 a1_0, Value.int .i64 a1_1, Value.int .i64 a1_2, Value.int .i64 a1_3, Value.slice A1_4 l1_4.length c1_4, Value.slice A1_5 l1_5.length c1_5, Value.slice A1_6 l1_6.length c1_6] := hcs1
  subst e1
  clear hA0 hval0 hsz0
  refine (HFnExactMerge.law a0_0 a0_1 a0_2 a0_3 _ _ l0_4 _ _ l0_5 _ _ l0_6 a1_0 a1_1 a1_2 a1_3 _ _ l1_4 _ _ l1_5 _ _ l1_6 W hC0_4 hl0_4 hC0_5 hl0_5 hC0_6 hl0_6 hC1_4 hl1_4 hC1_5 hl1_5 hC1_6 hl1_6 g0_0 g0_1 g0_2 g0_3 g0_4 g0_5 g0_6 g1_0 g1_1 g1_2 g1_3 g1_4 g1_5 g1_6).mono fun e W' ⟨he, bel⟩ => ?_
  subst he
  exact ⟨_, rfl, _, _, _, [], _, [], hW', trodAll_mk1 (shut_bool Try.underlying4 _), (trodAll_cons_mk (Below.trod laidOut (by kernel_rfl) (of_decide_eq_true (by kernel_rfl)) k0 bel lt0) (trodAll_cons_mk (Below.trod laidOut (by kernel_rfl) (of_decide_eq_true (by kernel_rfl)) k1 bel lt1) trodAll_mk0)), rfl, bel.frame _, fun h => by cases h⟩
theorem over : Rows.fnExactMergeRow.holds Try.pinned (OpenSpec.ofChange Rows.fnExactMergeSpec) :=
  OpenClaim.holds_of_wide 4 Try.f4 rfl rfl rfl rfl rfl rfl rfl ⟨rfl, rfl, rfl, rfl, rfl⟩ rfl rfl rfl rfl rfl (by kernel_rfl) Try.func4 (by kernel_rfl)
    (of_decide_eq_true (by kernel_rfl)) (by unfold Func.isWrapper; first | (rw [if_pos (by decide +kernel)]; kernel_rfl) | (rw [if_neg (by decide +kernel)]; exact ⟨rfl, rfl⟩))
    (fun os started H enc _ => lifted os started H enc)
theorem proved : Rows.FnExactMergeSaid := over
#print axioms proved
end Go.Proofs.Ytfknjoebomicnaa.fnExactMerge
namespace Go.Proofs.Ytfknjoebomicnaa
theorem fnExactMerge_holds : Rows.FnExactMergeSaid := fnExactMerge.proved
end Go.Proofs.Ytfknjoebomicnaa
