-- Written by this session's changed copy of the kit's printer (wip/patch_print.py): not the kit's own print.
import Derived.Test.YtnidahdhlocpnaaRows
import Derived.Test.YtnidahdhlocpnaaHandFnExactSketchBytes
import Derived.Test.YtnidahdhlocpnaaOpen
import Derived.WalkKit
import Derived.ProofKit
import Derived.OpenShut
import Derived.ShutString
import Derived.ChangeOld
import Derived.Below
import Derived.SizedLaws
namespace Go.Proofs.Ytnidahdhlocpnaa.fnExactSketchBytes
open Go.ChangeShapes Go.WideShapes Go.ChangeAt Go.RowKit Go.Proofs.Ytnidahdhlocpnaa.Open Go.Proofs.Ytnidahdhlocpnaa.PFnExactSketchBytes Go.Proofs.YtnidahdhlocpnaaW.PrintWords
open Go.ChangeMaps (open_string shut_string)
set_option linter.unusedVariables false
theorem own : ownKnob Try.prog.godebug = none := by kernel_rfl
theorem laidOut : laidOutB Try.prog = true := by kernel_rfl
set_option maxRecDepth 100000 in
theorem lifted (os : Os) (started : os.Started) (H : Type) (enc : TypeId × Value → H) :
    ReturnsInHanded {} Try.checked os 8 .any (Rows.fnExactSketchBytesSpec.pre6 enc Try.prog Try.f8 Rows.fnExactSketchBytesRow.domain false) (Rows.fnExactSketchBytesSpec.post enc Try.prog Try.f8 false true false false) := by
  refine returnsInHanded_of_change_sized (C := Try.checked) own started (by kernel_rfl) Try.func8
    (ChangeSpec.witness6 (enc := enc) (C := Try.checked) false ⟨#[], #[.agg #[.int .i64 0, .int .i64 0, .int .i64 0, .int .i64 0, .slice none 0 0, .slice none 0 0, .slice none 0 0]], []⟩ 8 (by kernel_rfl) (by kernel_rfl) (by kernel_rfl) (by kernel_rfl)) ?_
  intro W base args ds gs before hval0 hW hcnd hsz0 _
  have hval : ∀ (j : Nat) t v, Try.f8.params[j]? = some t → args[j]? = some v → Value.okWide Try.prog W .any base t v := hval0
  have hW' := hW
  obtain ⟨p, q, hA0, hV, rfl, hfz, hnd⟩ := hW
  have hA : DataW.TrodAll enc Try.prog W 0 (fun _ => true) true Try.f8.params.toList args.toList ds p := hA0
  rw [Try.params8] at hA hval
  obtain ⟨v0, vs0, d0, ds0, p0, q0, hargs, rfl, rfl, h0, r0⟩ := trodAll_cons hA
  obtain ⟨rfl, rfl, rfl⟩ := trodAll_nil r0
  obtain rfl : args = #[v0] := by cases args; simp_all
  obtain ⟨rfl, rfl⟩ := trodVars_none hV
  obtain ⟨⟨cs0⟩, rfl, _⟩ := okWide_struct Try.underlying42 (hval 0 42 v0 rfl rfl)
  have k0 := h0
  have lt0 : ∀ x ∈ p0, x.block < W.heap.size := by obtain ⟨m, hm⟩ := k0; exact DataW.trod_lt m _ _ _ hm
  obtain ⟨fu0, hf0⟩ := h0
  obtain ⟨⟨a0_0, a0_1, a0_2, a0_3, l0_4, l0_5, l0_6⟩, ⟨_, _, hcs0, rfl, ⟨_, _, rfl, rfl, ⟨_, _, rfl, rfl, ⟨_, _, rfl, rfl, ⟨_, _, rfl, ⟨A0_4, c0_4, rfl, hl0_4, hC0_4⟩, ⟨_, _, rfl, ⟨A0_5, c0_5, rfl, hl0_5, hC0_5⟩, ⟨A0_6, c0_6, rfl, hl0_6, hC0_6⟩⟩⟩⟩⟩⟩⟩, ⟨g0_0, g0_1, g0_2, g0_3, g0_4, g0_5, g0_6⟩⟩ := (opens_struct0 Try.underlying42 (by kernel_rfl) (.more rfl (opens_int Try.underlying3 (by kernel_rfl)) (.more rfl (opens_int Try.underlying3 (by kernel_rfl)) (.more rfl (opens_int Try.underlying3 (by kernel_rfl)) (.more rfl (opens_int Try.underlying3 (by kernel_rfl)) (.more rfl (opens_slice Try.underlying34 (by kernel_rfl) (opens_int Try.underlying3 (by kernel_rfl))) (.more rfl (opens_slice Try.underlying34 (by kernel_rfl) (opens_int Try.underlying3 (by kernel_rfl))) (.one rfl (opens_slice Try.underlying35 (by kernel_rfl) (opens_slice Try.underlying34 (by kernel_rfl) (opens_int Try.underlying3 (by kernel_rfl)))))))))))).2 enc W 0 _ true fu0 _ _ hf0
  have e0 : cs0 = [Value.int .i64 a0_0, Value.int .i64 a0_1, Value.int .i64 a0_2, Value.int .i64 a0_3, Value.slice A0_4 l0_4.length c0_4, Value.slice A0_5 l0_5.length c0_5, Value.slice A0_6 l0_6.length c0_6] := hcs0
  subst e0
  clear hA0 hval0 hsz0
  refine (HFnExactSketchBytes.law a0_0 a0_1 a0_2 a0_3 _ _ l0_4 _ _ l0_5 _ _ l0_6 W hC0_4 hl0_4 hC0_5 hl0_5 hC0_6 hl0_6 g0_0 g0_1 g0_2 g0_3 g0_4 g0_5 g0_6).mono fun e W' ⟨he, bel⟩ => ?_
  subst he
  exact ⟨_, rfl, _, _, _, [], _, [], hW', trodAll_mk1 (shut_bool Try.underlying4 _), (trodAll_cons_mk (Below.trod laidOut (by kernel_rfl) (of_decide_eq_true (by kernel_rfl)) k0 bel lt0) trodAll_mk0), rfl, bel.frame _, fun h => by cases h⟩
theorem over : Rows.fnExactSketchBytesRow.holds Try.pinned (OpenSpec.ofChange Rows.fnExactSketchBytesSpec) :=
  OpenClaim.holds_of_wide 8 Try.f8 rfl rfl rfl rfl rfl rfl rfl ⟨rfl, rfl, rfl, rfl, rfl⟩ rfl rfl rfl rfl rfl (by kernel_rfl) Try.func8 (by kernel_rfl)
    (of_decide_eq_true (by kernel_rfl)) (by unfold Func.isWrapper; first | (rw [if_pos (by decide +kernel)]; kernel_rfl) | (rw [if_neg (by decide +kernel)]; exact ⟨rfl, rfl⟩))
    (fun os started H enc _ => lifted os started H enc)
theorem proved : Rows.FnExactSketchBytesSaid := over
#print axioms proved
end Go.Proofs.Ytnidahdhlocpnaa.fnExactSketchBytes
namespace Go.Proofs.Ytnidahdhlocpnaa
/-- The row, under a short name, for the claim. -/
theorem fnExactSketchBytes_holds : Rows.FnExactSketchBytesSaid := fnExactSketchBytes.proved
end Go.Proofs.Ytnidahdhlocpnaa
