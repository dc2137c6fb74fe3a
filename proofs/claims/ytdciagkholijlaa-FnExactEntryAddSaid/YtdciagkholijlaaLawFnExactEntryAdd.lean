-- Written by this session's changed copy of the kit's printer (wip/patch_print.py): not the kit's own print.
import Derived.Test.YtdciagkholijlaaRows
import Derived.Test.YtdciagkholijlaaHandFnExactEntryAdd
import Derived.Test.YtdciagkholijlaaOpen
import Derived.WalkKit
import Derived.ProofKit
import Derived.OpenShut
import Derived.ShutString
import Derived.ChangeOld
import Derived.Below
import Derived.SizedLaws
namespace Go.Proofs.Ytdciagkholijlaa.fnExactEntryAdd
open Go.ChangeShapes Go.WideShapes Go.ChangeAt Go.RowKit Go.Proofs.Ytdciagkholijlaa.Open Go.Proofs.Ytdciagkholijlaa.PFnExactEntryAdd Go.Proofs.YtdciagkholijlaaW.PrintWords
open Go.ChangeMaps (open_string shut_string)
def good113 (x : S113) : Prop := (-9223372036854775808 ≤ x.f0 ∧ x.f0 ≤ 9223372036854775807) ∧ (-9223372036854775808 ≤ x.f1 ∧ x.f1 ≤ 9223372036854775807)
set_option linter.unusedVariables false
theorem own : ownKnob Try.prog.godebug = none := by kernel_rfl
theorem laidOut : laidOutB Try.prog = true := by kernel_rfl
theorem opens113 : Opens Try.prog 113 k113 good113 :=
  opens_struct (fun x : S113 => (x.f0, x.f1)) (fun a => ⟨a.1, a.2⟩) (fun _ => rfl) Try.underlying113 (by kernel_rfl) (.more rfl (opens_int Try.underlying3 (by kernel_rfl)) (.one rfl (opens_int Try.underlying3 (by kernel_rfl))))
set_option maxRecDepth 100000 in
theorem lifted (os : Os) (started : os.Started) (H : Type) (enc : TypeId × Value → H) :
    ReturnsInHanded {} Try.checked os 6 .any (Rows.fnExactEntryAddSpec.pre6 enc Try.prog Try.f6 Rows.fnExactEntryAddRow.domain false) (Rows.fnExactEntryAddSpec.post enc Try.prog Try.f6 false true false false) := by
  refine returnsInHanded_of_change_sized (C := Try.checked) own started (by kernel_rfl) Try.func6
    (ChangeSpec.witness6 (enc := enc) (C := Try.checked) false ⟨#[], #[.agg #[.int .i64 0, .int .i64 0, .slice none 0 0, .int .i64 0, .int .i64 0, .int .i64 0, .int .i64 0, .slice none 0 0, .slice none 0 0, .slice none 0 0], .agg #[.int .i64 0, .int .i64 0, .slice none 0 0, .int .i64 0, .int .i64 0, .int .i64 0, .int .i64 0, .slice none 0 0, .slice none 0 0, .slice none 0 0]], []⟩ 8 (by kernel_rfl) (by kernel_rfl) (by kernel_rfl) (by kernel_rfl)) ?_
  intro W base args ds gs before hval0 hW hcnd hsz0 _
  have hval : ∀ (j : Nat) t v, Try.f6.params[j]? = some t → args[j]? = some v → Value.okWide Try.prog W .any base t v := hval0
  have hW' := hW
  obtain ⟨p, q, hA0, hV, rfl, hfz, hnd⟩ := hW
  have hA : DataW.TrodAll enc Try.prog W 0 (fun _ => true) true Try.f6.params.toList args.toList ds p := hA0
  rw [Try.params6] at hA hval
  obtain ⟨v0, vs0, d0, ds0, p0, q0, hargs, rfl, rfl, h0, r0⟩ := trodAll_cons hA
  obtain ⟨v1, vs1, d1, ds1, p1, q1, rfl, rfl, rfl, h1, r1⟩ := trodAll_cons r0
  obtain ⟨rfl, rfl, rfl⟩ := trodAll_nil r1
  obtain rfl : args = #[v0, v1] := by cases args; simp_all
  obtain ⟨rfl, rfl⟩ := trodVars_none hV
  obtain ⟨⟨cs0⟩, rfl, _⟩ := okWide_struct Try.underlying61 (hval 0 61 v0 rfl rfl)
  have k0 := h0
  have lt0 : ∀ x ∈ p0, x.block < W.heap.size := by obtain ⟨m, hm⟩ := k0; exact DataW.trod_lt m _ _ _ hm
  obtain ⟨fu0, hf0⟩ := h0
  obtain ⟨⟨a0_0, a0_1, l0_2, ⟨a0_3, a0_4, a0_5, a0_6, l0_7, l0_8, l0_9⟩⟩, ⟨_, _, hcs0, rfl, ⟨_, _, rfl, rfl, ⟨_, _, rfl, ⟨A0_2, c0_2, rfl, hl0_2, hC0_2⟩, ⟨_, _, rfl, rfl, ⟨_, _, rfl, rfl, ⟨_, _, rfl, rfl, ⟨_, _, rfl, rfl, ⟨_, _, rfl, ⟨A0_7, c0_7, rfl, hl0_7, hC0_7⟩, ⟨_, _, rfl, ⟨A0_8, c0_8, rfl, hl0_8, hC0_8⟩, ⟨A0_9, c0_9, rfl, hl0_9, hC0_9⟩⟩⟩⟩⟩⟩⟩⟩⟩⟩, ⟨g0_0, g0_1, g0_2, ⟨g0_3, g0_4, g0_5, g0_6, g0_7, g0_8, g0_9⟩⟩⟩ := (opens_struct0 Try.underlying61 (by kernel_rfl) (.more rfl (opens_int Try.underlying3 (by kernel_rfl)) (.more rfl (opens_int Try.underlying3 (by kernel_rfl)) (.more rfl (opens_slice Try.underlying59 (by kernel_rfl) opens113) (.one rfl (opens_struct0 Try.underlying45 (by kernel_rfl) (.more rfl (opens_int Try.underlying3 (by kernel_rfl)) (.more rfl (opens_int Try.underlying3 (by kernel_rfl)) (.more rfl (opens_int Try.underlying3 (by kernel_rfl)) (.more rfl (opens_int Try.underlying3 (by kernel_rfl)) (.more rfl (opens_slice Try.underlying24 (by kernel_rfl) (opens_int Try.underlying3 (by kernel_rfl))) (.more rfl (opens_slice Try.underlying24 (by kernel_rfl) (opens_int Try.underlying3 (by kernel_rfl))) (.one rfl (opens_slice Try.underlying25 (by kernel_rfl) (opens_slice Try.underlying24 (by kernel_rfl) (opens_int Try.underlying3 (by kernel_rfl))))))))))))))))).2 enc W 0 _ true fu0 _ _ hf0
  have e0 : cs0 = [Value.int .i64 a0_0, Value.int .i64 a0_1, Value.slice A0_2 l0_2.length c0_2, Value.int .i64 a0_3, Value.int .i64 a0_4, Value.int .i64 a0_5, Value.int .i64 a0_6, Value.slice A0_7 l0_7.length c0_7, Value.slice A0_8 l0_8.length c0_8, Value.slice A0_9 l0_9.length c0_9] := hcs0
  subst e0
  obtain ⟨⟨cs1⟩, rfl, _⟩ := okWide_struct Try.underlying61 (hval 1 61 v1 rfl rfl)
  have k1 := h1
  have lt1 : ∀ x ∈ p1, x.block < W.heap.size := by obtain ⟨m, hm⟩ := k1; exact DataW.trod_lt m _ _ _ hm
  obtain ⟨fu1, hf1⟩ := h1
  obtain ⟨⟨a1_0, a1_1, l1_2, ⟨a1_3, a1_4, a1_5, a1_6, l1_7, l1_8, l1_9⟩⟩, ⟨_, _, hcs1, rfl, ⟨_, _, rfl, rfl, ⟨_, _, rfl, ⟨A1_2, c1_2, rfl, hl1_2, hC1_2⟩, ⟨_, _, rfl, rfl, ⟨_, _, rfl, rfl, ⟨_, _, rfl, rfl, ⟨_, _, rfl, rfl, ⟨_, _, rfl, ⟨A1_7, c1_7, rfl, hl1_7, hC1_7⟩, ⟨_, _, rfl, ⟨A1_8, c1_8, rfl, hl1_8, hC1_8⟩, ⟨A1_9, c1_9, rfl, hl1_9, hC1_9⟩⟩⟩⟩⟩⟩⟩⟩⟩⟩, ⟨g1_0, g1_1, g1_2, ⟨g1_3, g1_4, g1_5, g1_6, g1_7, g1_8, g1_9⟩⟩⟩ := (opens_struct0 Try.underlying61 (by kernel_rfl) (.more rfl (opens_int Try.underlying3 (by kernel_rfl)) (.more rfl (opens_int Try.underlying3 (by kernel_rfl)) (.more rfl (opens_slice Try.underlying59 (by kernel_rfl) opens113) (.one rfl (opens_struct0 Try.underlying45 (by kernel_rfl) (.more rfl (opens_int Try.underlying3 (by kernel_rfl)) (.more rfl (opens_int Try.underlying3 (by kernel_rfl)) (.more rfl (opens_int Try.underlying3 (by kernel_rfl)) (.more rfl (opens_int Try.underlying3 (by kernel_rfl)) (.more rfl (opens_slice Try.underlying24 (by kernel_rfl) (opens_int Try.underlying3 (by kernel_rfl))) (.more rfl (opens_slice Try.underlying24 (by kernel_rfl) (opens_int Try.underlying3 (by kernel_rfl))) (.one rfl (opens_slice Try.underlying25 (by kernel_rfl) (opens_slice Try.underlying24 (by kernel_rfl) (opens_int Try.underlying3 (by kernel_rfl))))))))))))))))).2 enc W 0 _ true fu1 _ _ hf1
  have e1 : cs1 = [Value.int .i64 a1_0, Value.int .i64 a1_1, Value.slice A1_2 l1_2.length c1_2, Value.int .i64 a1_3, Value.int .i64 a1_4, Value.int .i64 a1_5, Value.int .i64 a1_6, Value.slice A1_7 l1_7.length c1_7, Value.slice A1_8 l1_8.length c1_8, Value.slice A1_9 l1_9.length c1_9] := hcs1
  subst e1
  clear hA0 hval0 hsz0
  refine (HFnExactEntryAdd.law a0_0 a0_1 _ _ l0_2 a0_3 a0_4 a0_5 a0_6 _ _ l0_7 _ _ l0_8 _ _ l0_9 a1_0 a1_1 _ _ l1_2 a1_3 a1_4 a1_5 a1_6 _ _ l1_7 _ _ l1_8 _ _ l1_9 W hC0_2 hl0_2 hC0_7 hl0_7 hC0_8 hl0_8 hC0_9 hl0_9 hC1_2 hl1_2 hC1_7 hl1_7 hC1_8 hl1_8 hC1_9 hl1_9 g0_0 g0_1 g0_2 g0_3 g0_4 g0_5 g0_6 g0_7 g0_8 g0_9 g1_0 g1_1 g1_2 g1_3 g1_4 g1_5 g1_6 g1_7 g1_8 g1_9).mono fun e W' ⟨he, bel⟩ => ?_
  subst he
  exact ⟨_, rfl, _, _, _, [], _, [], hW', trodAll_mk1 (shut_bool Try.underlying4 _), (trodAll_cons_mk (Below.trod laidOut (by kernel_rfl) (of_decide_eq_true (by kernel_rfl)) k0 bel lt0) (trodAll_cons_mk (Below.trod laidOut (by kernel_rfl) (of_decide_eq_true (by kernel_rfl)) k1 bel lt1) trodAll_mk0)), rfl, bel.frame _, fun h => by cases h⟩
theorem over : Rows.fnExactEntryAddRow.holds Try.pinned (OpenSpec.ofChange Rows.fnExactEntryAddSpec) :=
  OpenClaim.holds_of_wide 6 Try.f6 rfl rfl rfl rfl rfl rfl rfl ⟨rfl, rfl, rfl, rfl, rfl⟩ rfl rfl rfl rfl rfl (by kernel_rfl) Try.func6 (by kernel_rfl)
    (of_decide_eq_true (by kernel_rfl)) (by unfold Func.isWrapper; first | (rw [if_pos (by decide +kernel)]; kernel_rfl) | (rw [if_neg (by decide +kernel)]; exact ⟨rfl, rfl⟩))
    (fun os started H enc _ => lifted os started H enc)
theorem proved : Rows.FnExactEntryAddSaid := over
#print axioms proved
end Go.Proofs.Ytdciagkholijlaa.fnExactEntryAdd
namespace Go.Proofs.Ytdciagkholijlaa
theorem fnExactEntryAdd_holds : Rows.FnExactEntryAddSaid := fnExactEntryAdd.proved
end Go.Proofs.Ytdciagkholijlaa
