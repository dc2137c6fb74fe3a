-- Written by this session's changed copy of the kit's printer (wip/patch_print.py): not the kit's own print.
import Derived.Test.YthmggcdjagiigaaRows
import Derived.Test.YthmggcdjagiigaaPFnExactEntrySizex8
import Derived.Test.YthmggcdjagiigaaPureFnExactEntrySize
import Derived.Test.YthmggcdjagiigaaOpen
import Derived.WalkKit
import Derived.ProofKit
import Derived.OpenShut
import Derived.ShutString
import Derived.ChangeOld
import Derived.Below
import Derived.SizedLaws
namespace Go.Proofs.Ythmggcdjagiigaa.fnExactEntrySize
open Go.ChangeShapes Go.WideShapes Go.ChangeAt Go.RowKit Go.Proofs.Ythmggcdjagiigaa.Open Go.Proofs.Ythmggcdjagiigaa.PFnExactEntrySize Go.Proofs.YthmggcdjagiigaaW.PrintWords
open Go.ChangeMaps (open_string shut_string)
set_option linter.unusedVariables false
theorem own : ownKnob Try.prog.godebug = none := by kernel_rfl
theorem laidOut : laidOutB Try.prog = true := by kernel_rfl
theorem opens97 : Opens Try.prog 97 k97 good97 :=
  opens_struct (fun x : S97 => (x.f0, x.f1)) (fun a => ⟨a.1, a.2⟩) (fun _ => rfl) Try.underlying97 (by kernel_rfl) (.more rfl (opens_int Try.underlying3 (by kernel_rfl)) (.one rfl (opens_int Try.underlying3 (by kernel_rfl))))
set_option maxRecDepth 100000 in
theorem lifted (os : Os) (started : os.Started) (H : Type) (enc : TypeId × Value → H) :
    ReturnsInHanded {} Try.checked os 11 .any (Rows.fnExactEntrySizeSpec.pre6 enc Try.prog Try.f11 Rows.fnExactEntrySizeRow.domain false) (Rows.fnExactEntrySizeSpec.post enc Try.prog Try.f11 false true false false) := by
  refine returnsInHanded_of_change_sized (C := Try.checked) own started (by kernel_rfl) Try.func11
    (ChangeSpec.witness6 (enc := enc) (C := Try.checked) false ⟨#[], #[.agg #[.int .i64 0, .int .i64 0, .slice none 0 0, .int .i64 0, .int .i64 0, .int .i64 0, .int .i64 0, .slice none 0 0, .slice none 0 0, .slice none 0 0]], []⟩ 8 (by kernel_rfl) (by kernel_rfl) (by kernel_rfl) (by kernel_rfl)) ?_
  intro W base args ds gs before hval0 hW hcnd hsz0 _
  have hval : ∀ (j : Nat) t v, Try.f11.params[j]? = some t → args[j]? = some v → Value.okWide Try.prog W .any base t v := hval0
  have hW' := hW
  obtain ⟨p, q, hA0, hV, rfl, hfz, hnd⟩ := hW
  have hA : DataW.TrodAll enc Try.prog W 0 (fun _ => true) true Try.f11.params.toList args.toList ds p := hA0
  rw [Try.params11] at hA hval
  obtain ⟨v0, vs0, d0, ds0, p0, q0, hargs, rfl, rfl, h0, r0⟩ := trodAll_cons hA
  obtain ⟨rfl, rfl, rfl⟩ := trodAll_nil r0
  obtain rfl : args = #[v0] := by cases args; simp_all
  obtain ⟨rfl, rfl⟩ := trodVars_none hV
  obtain ⟨⟨cs0⟩, rfl, _⟩ := okWide_struct Try.underlying47 (hval 0 47 v0 rfl rfl)
  have k0 := h0
  have lt0 : ∀ x ∈ p0, x.block < W.heap.size := by obtain ⟨m, hm⟩ := k0; exact DataW.trod_lt m _ _ _ hm
  obtain ⟨fu0, hf0⟩ := h0
  obtain ⟨⟨a0_0, a0_1, l0_2, ⟨a0_3, a0_4, a0_5, a0_6, l0_7, l0_8, l0_9⟩⟩, ⟨_, _, hcs0, rfl, ⟨_, _, rfl, rfl, ⟨_, _, rfl, ⟨A0_2, c0_2, rfl, hl0_2, hC0_2⟩, ⟨_, _, rfl, rfl, ⟨_, _, rfl, rfl, ⟨_, _, rfl, rfl, ⟨_, _, rfl, rfl, ⟨_, _, rfl, ⟨A0_7, c0_7, rfl, hl0_7, hC0_7⟩, ⟨_, _, rfl, ⟨A0_8, c0_8, rfl, hl0_8, hC0_8⟩, ⟨A0_9, c0_9, rfl, hl0_9, hC0_9⟩⟩⟩⟩⟩⟩⟩⟩⟩⟩, ⟨g0_0, g0_1, g0_2, ⟨g0_3, g0_4, g0_5, g0_6, g0_7, g0_8, g0_9⟩⟩⟩ := (opens_struct0 Try.underlying47 (by kernel_rfl) (.more rfl (opens_int Try.underlying3 (by kernel_rfl)) (.more rfl (opens_int Try.underlying3 (by kernel_rfl)) (.more rfl (opens_slice Try.underlying45 (by kernel_rfl) opens97) (.one rfl (opens_struct0 Try.underlying25 (by kernel_rfl) (.more rfl (opens_int Try.underlying3 (by kernel_rfl)) (.more rfl (opens_int Try.underlying3 (by kernel_rfl)) (.more rfl (opens_int Try.underlying3 (by kernel_rfl)) (.more rfl (opens_int Try.underlying3 (by kernel_rfl)) (.more rfl (opens_slice Try.underlying22 (by kernel_rfl) (opens_int Try.underlying3 (by kernel_rfl))) (.more rfl (opens_slice Try.underlying22 (by kernel_rfl) (opens_int Try.underlying3 (by kernel_rfl))) (.one rfl (opens_slice Try.underlying23 (by kernel_rfl) (opens_slice Try.underlying22 (by kernel_rfl) (opens_int Try.underlying3 (by kernel_rfl))))))))))))))))).2 enc W 0 _ true fu0 _ _ hf0
  have e0 : cs0 = [Value.int .i64 a0_0, Value.int .i64 a0_1, Value.slice A0_2 l0_2.length c0_2, Value.int .i64 a0_3, Value.int .i64 a0_4, Value.int .i64 a0_5, Value.int .i64 a0_6, Value.slice A0_7 l0_7.length c0_7, Value.slice A0_8 l0_8.length c0_8, Value.slice A0_9 l0_9.length c0_9] := hcs0
  subst e0
  clear hA0 hval0 hsz0
  obtain ⟨k, hk⟩ := Pure.FnExactEntrySize a0_0 a0_1 l0_2 a0_3 a0_4 a0_5 a0_6 l0_7 l0_8 l0_9 g0_0 g0_1 g0_2 g0_3 g0_4 g0_5 g0_6 g0_7 g0_8 g0_9
  refine (laws_FnExactEntrySize.calls k a0_0 a0_1 _ _ l0_2 a0_3 a0_4 a0_5 a0_6 _ _ l0_7 _ _ l0_8 _ _ l0_9 true W hC0_2 hl0_2 hC0_7 hl0_7 hC0_8 hl0_8 hC0_9 hl0_9 ⟨rfl⟩ hk).mono fun e W' ⟨he, bel0⟩ => ?_
  have bel := bel0
  subst he
  exact ⟨_, rfl, _, _, _, [], _, [], hW', trodAll_mk1 (shut_bool Try.underlying4 _), (trodAll_cons_mk (Below.trod laidOut (by kernel_rfl) (of_decide_eq_true (by kernel_rfl)) k0 bel lt0) trodAll_mk0), rfl, bel.frame _, fun h => by cases h⟩
theorem over : Rows.fnExactEntrySizeRow.holds Try.pinned (OpenSpec.ofChange Rows.fnExactEntrySizeSpec) :=
  OpenClaim.holds_of_wide 11 Try.f11 rfl rfl rfl rfl rfl rfl rfl ⟨rfl, rfl, rfl, rfl, rfl⟩ rfl rfl rfl rfl rfl (by kernel_rfl) Try.func11 (by kernel_rfl)
    (of_decide_eq_true (by kernel_rfl)) (by unfold Func.isWrapper; first | (rw [if_pos (by decide +kernel)]; kernel_rfl) | (rw [if_neg (by decide +kernel)]; exact ⟨rfl, rfl⟩))
    (fun os started H enc _ => lifted os started H enc)
theorem proved : Rows.FnExactEntrySizeSaid := over
#print axioms proved
end Go.Proofs.Ythmggcdjagiigaa.fnExactEntrySize
namespace Go.Proofs.Ythmggcdjagiigaa
/-- The row, under a short name, for the claim. -/
theorem fnExactEntrySize_holds : Rows.FnExactEntrySizeSaid := fnExactEntrySize.proved
end Go.Proofs.Ythmggcdjagiigaa
