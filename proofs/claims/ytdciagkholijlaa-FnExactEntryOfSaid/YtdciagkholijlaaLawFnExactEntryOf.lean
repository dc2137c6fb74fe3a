-- Written by this session's changed copy of the kit's printer (wip/patch_print.py): not the kit's own print.
import Derived.Test.YtdciagkholijlaaRows
import Derived.Test.YtdciagkholijlaaHandFnExactEntryOf
import Derived.Test.YtdciagkholijlaaOpen
import Derived.WalkKit
import Derived.ProofKit
import Derived.OpenShut
import Derived.ShutString
import Derived.ChangeOld
import Derived.Below
import Derived.SizedLaws
namespace Go.Proofs.Ytdciagkholijlaa.fnExactEntryOf
open Go.ChangeShapes Go.WideShapes Go.ChangeAt Go.RowKit Go.Proofs.Ytdciagkholijlaa.Open Go.Proofs.Ytdciagkholijlaa.PFnExactEntryOf Go.Proofs.YtdciagkholijlaaW.PrintWords
open Go.ChangeMaps (open_string shut_string)
set_option linter.unusedVariables false
theorem own : ownKnob Try.prog.godebug = none := by kernel_rfl
theorem laidOut : laidOutB Try.prog = true := by kernel_rfl
set_option maxRecDepth 100000 in
theorem lifted (os : Os) (started : os.Started) (H : Type) (enc : TypeId × Value → H) :
    ReturnsInHanded {} Try.checked os 4 .any (Rows.fnExactEntryOfSpec.pre6 enc Try.prog Try.f4 Rows.fnExactEntryOfRow.domain false) (Rows.fnExactEntryOfSpec.post enc Try.prog Try.f4 false true false false) := by
  refine returnsInHanded_of_change_sized (C := Try.checked) own started (by kernel_rfl) Try.func4
    (ChangeSpec.witness6 (enc := enc) (C := Try.checked) false ⟨#[], #[.int .i64 0, .agg #[.int .i64 0, .int .i64 0, .int .i64 0, .int .i64 0, .int .i64 0, .int .i64 0, .int .i64 0, .int .i64 0, .slice none 0 0, .slice none 0 0, .slice none 0 0]], []⟩ 8 (by kernel_rfl) (by kernel_rfl) (by kernel_rfl) (by kernel_rfl)) ?_
  intro W base args ds gs before hval0 hW hcnd hsz0 _
  have hval : ∀ (j : Nat) t v, Try.f4.params[j]? = some t → args[j]? = some v → Value.okWide Try.prog W .any base t v := hval0
  have hW' := hW
  obtain ⟨p, q, hA0, hV, rfl, hfz, hnd⟩ := hW
  have hA : DataW.TrodAll enc Try.prog W 0 (fun _ => true) true Try.f4.params.toList args.toList ds p := hA0
  rw [Try.params4] at hA hval
  obtain ⟨v0, vs0, d0, ds0, p0, q0, hargs, rfl, rfl, h0, r0⟩ := trodAll_cons hA
  obtain ⟨v1, vs1, d1, ds1, p1, q1, rfl, rfl, rfl, h1, r1⟩ := trodAll_cons r0
  obtain ⟨rfl, rfl, rfl⟩ := trodAll_nil r1
  obtain rfl : args = #[v0, v1] := by cases args; simp_all
  obtain ⟨rfl, rfl⟩ := trodVars_none hV
  obtain ⟨a0, rfl, rfl, rfl, w0⟩ := open_int Try.underlying3 (hval 0 3 v0 rfl rfl) h0
  obtain ⟨⟨cs1⟩, rfl, _⟩ := okWide_struct Try.underlying47 (hval 1 47 v1 rfl rfl)
  have k1 := h1
  have lt1 : ∀ x ∈ p1, x.block < W.heap.size := by obtain ⟨m, hm⟩ := k1; exact DataW.trod_lt m _ _ _ hm
  obtain ⟨fu1, hf1⟩ := h1
  obtain ⟨⟨a1_0, a1_1, a1_2, a1_3, ⟨a1_4, a1_5, a1_6, a1_7, l1_8, l1_9, l1_10⟩⟩, ⟨_, _, hcs1, rfl, ⟨_, _, rfl, rfl, ⟨_, _, rfl, rfl, ⟨_, _, rfl, rfl, ⟨_, _, rfl, rfl, ⟨_, _, rfl, rfl, ⟨_, _, rfl, rfl, ⟨_, _, rfl, rfl, ⟨_, _, rfl, ⟨A1_8, c1_8, rfl, hl1_8, hC1_8⟩, ⟨_, _, rfl, ⟨A1_9, c1_9, rfl, hl1_9, hC1_9⟩, ⟨A1_10, c1_10, rfl, hl1_10, hC1_10⟩⟩⟩⟩⟩⟩⟩⟩⟩⟩⟩, ⟨g1_0, g1_1, g1_2, g1_3, ⟨g1_4, g1_5, g1_6, g1_7, g1_8, g1_9, g1_10⟩⟩⟩ := (opens_struct0 Try.underlying47 (by kernel_rfl) (.more rfl (opens_int Try.underlying3 (by kernel_rfl)) (.more rfl (opens_int Try.underlying3 (by kernel_rfl)) (.more rfl (opens_int Try.underlying3 (by kernel_rfl)) (.more rfl (opens_int Try.underlying3 (by kernel_rfl)) (.one rfl (opens_struct0 Try.underlying45 (by kernel_rfl) (.more rfl (opens_int Try.underlying3 (by kernel_rfl)) (.more rfl (opens_int Try.underlying3 (by kernel_rfl)) (.more rfl (opens_int Try.underlying3 (by kernel_rfl)) (.more rfl (opens_int Try.underlying3 (by kernel_rfl)) (.more rfl (opens_slice Try.underlying24 (by kernel_rfl) (opens_int Try.underlying3 (by kernel_rfl))) (.more rfl (opens_slice Try.underlying24 (by kernel_rfl) (opens_int Try.underlying3 (by kernel_rfl))) (.one rfl (opens_slice Try.underlying25 (by kernel_rfl) (opens_slice Try.underlying24 (by kernel_rfl) (opens_int Try.underlying3 (by kernel_rfl)))))))))))))))))).2 enc W 0 _ true fu1 _ _ hf1
  have e1 : cs1 = [Value.int .i64 a1_0, Value.int .i64 a1_1, Value.int .i64 a1_2, Value.int .i64 a1_3, Value.int .i64 a1_4, Value.int .i64 a1_5, Value.int .i64 a1_6, Value.int .i64 a1_7, Value.slice A1_8 l1_8.length c1_8, Value.slice A1_9 l1_9.length c1_9, Value.slice A1_10 l1_10.length c1_10] := hcs1
  subst e1
  clear hA0 hval0 hsz0
  refine (HFnExactEntryOf.law a0 a1_0 a1_1 a1_2 a1_3 a1_4 a1_5 a1_6 a1_7 _ _ l1_8 _ _ l1_9 _ _ l1_10 W hC1_8 hl1_8 hC1_9 hl1_9 hC1_10 hl1_10 (in64 w0) g1_0 g1_1 g1_2 g1_3 g1_4 g1_5 g1_6 g1_7 g1_8 g1_9 g1_10).mono fun e W' ⟨he, bel⟩ => ?_
  subst he
  exact ⟨_, rfl, _, _, _, [], _, [], hW', trodAll_mk1 (shut_bool Try.underlying4 _), (trodAll_cons_mk (shut_int Try.underlying3 w0) (trodAll_cons_mk (Below.trod laidOut (by kernel_rfl) (of_decide_eq_true (by kernel_rfl)) k1 bel lt1) trodAll_mk0)), rfl, bel.frame _, fun h => by cases h⟩
theorem over : Rows.fnExactEntryOfRow.holds Try.pinned (OpenSpec.ofChange Rows.fnExactEntryOfSpec) :=
  OpenClaim.holds_of_wide 4 Try.f4 rfl rfl rfl rfl rfl rfl rfl ⟨rfl, rfl, rfl, rfl, rfl⟩ rfl rfl rfl rfl rfl (by kernel_rfl) Try.func4 (by kernel_rfl)
    (of_decide_eq_true (by kernel_rfl)) (by unfold Func.isWrapper; first | (rw [if_pos (by decide +kernel)]; kernel_rfl) | (rw [if_neg (by decide +kernel)]; exact ⟨rfl, rfl⟩))
    (fun os started H enc _ => lifted os started H enc)
theorem proved : Rows.FnExactEntryOfSaid := over
#print axioms proved
end Go.Proofs.Ytdciagkholijlaa.fnExactEntryOf
namespace Go.Proofs.Ytdciagkholijlaa
theorem fnExactEntryOf_holds : Rows.FnExactEntryOfSaid := fnExactEntryOf.proved
end Go.Proofs.Ytdciagkholijlaa
