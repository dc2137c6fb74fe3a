-- Written by this session's changed copy of the kit's printer (wip/patch_print.py): not the kit's own print.
import Derived.Test.YtkpicmjncfhnmaaDoorTie
import Derived.Test.YtkpicmjncfhnmaaDoorCards
import Derived.Test.YtkpicmjncfhnmaaDoorLaid
import Derived.Test.YtkpicmjncfhnmaaDoorRows
import Derived.Test.YtkpicmjncfhnmaaDoorHandFnExactInsert
import Derived.Test.YtkpicmjncfhnmaaDoorOpen
import Derived.WalkKit
import Derived.ProofKit
import Derived.OpenShut
import Derived.ShutString
import Derived.ChangeOld
import Derived.Below
import Derived.SizedLaws
namespace Go.Proofs.YtkpicmjncfhnmaaDoor.fnExactInsert
open Go.ChangeShapes Go.WideShapes Go.ChangeAt Go.RowKit Go.Proofs.YtkpicmjncfhnmaaDoor.Open Go.Proofs.YtkpicmjncfhnmaaDoor.PFnExactInsert Go.Proofs.YtkpicmjncfhnmaaDoorW.PrintWords
open Go.ChangeMaps (open_string shut_string)
set_option linter.unusedVariables false
theorem own : ownKnob Tryd.prog.godebug = none := by kernel_rfl
theorem laidOut : laidOutB Tryd.prog = true := by kernel_rfl
set_option maxRecDepth 100000 in
theorem lifted (os : Os) (started : os.Started) (H : Type) (enc : TypeId × Value → H) :
    ReturnsInHanded {} Tryd.checked os 13 .any (fun w args => (Rows.fnExactInsertSpec.pre enc Tryd.prog Tryd.f13 [] false w args ∧ laidMetH Tryd.prog Laid.laid2 w) ∧ sizedMet enc Tryd.prog Tryd.f13 (OpenSpec.ofChange Rows.fnExactInsertSpec) false w args) (Rows.fnExactInsertSpec.post enc Tryd.prog Tryd.f13 false true false false) := by
  refine returnsInHanded_of_change_and (C := Tryd.checked) (X := fun w _ => laidMetH Tryd.prog Laid.laid2 w) (fun _ _ _ hh h => h.of_heap hh) Laid.own started (by kernel_rfl) Tryd.func13
    (ChangeSpec.witness_shaped (enc := enc) (C := Tryd.checked) (os := os) (X := fun w _ => laidMetH Tryd.prog Laid.laid2 w) false (World.doorLaid Tryd.prog 400 os) #[.agg #[.int .i64 0, .int .i64 0, .int .i64 0, .int .i64 0, .slice none 0 0, .slice none 0 0, .slice none 0 0], .int .i64 0] 8 rfl (World.shaped_of_RefB (by kernel_rfl) (by kernel_rfl)) (by kernel_rfl) (by kernel_rfl) (by kernel_rfl) (Laid.door_met2 os _)) ?_
  intro W base args ds gs before hval0 hW _ _ hL _
  have hval : ∀ (j : Nat) t v, Tryd.f13.params[j]? = some t → args[j]? = some v → Value.okWide Tryd.prog W .any base t v := hval0
  have hW' := hW
  obtain ⟨p, q, hA0, hV, rfl, hfz, hnd⟩ := hW
  have hA : DataW.TrodAll enc Tryd.prog W 0 (fun _ => true) true Tryd.f13.params.toList args.toList ds p := hA0
  rw [Tryd.params13] at hA hval
  obtain ⟨v0, vs0, d0, ds0, p0, q0, hargs, rfl, rfl, h0, r0⟩ := trodAll_cons hA
  obtain ⟨v1, vs1, d1, ds1, p1, q1, rfl, rfl, rfl, h1, r1⟩ := trodAll_cons r0
  obtain ⟨rfl, rfl, rfl⟩ := trodAll_nil r1
  obtain rfl : args = #[v0, v1] := by cases args; simp_all
  obtain ⟨rfl, rfl⟩ := trodVars_none hV
  obtain ⟨⟨cs0⟩, rfl, _⟩ := okWide_struct Tryd.underlying61 (hval 0 61 v0 rfl rfl)
  have k0 := h0
  have lt0 : ∀ x ∈ p0, x.block < W.heap.size := by obtain ⟨m, hm⟩ := k0; exact DataW.trod_lt m _ _ _ hm
  obtain ⟨fu0, hf0⟩ := h0
  obtain ⟨⟨a0_0, a0_1, a0_2, a0_3, l0_4, l0_5, l0_6⟩, ⟨_, _, hcs0, rfl, ⟨_, _, rfl, rfl, ⟨_, _, rfl, rfl, ⟨_, _, rfl, rfl, ⟨_, _, rfl, ⟨A0_4, c0_4, rfl, hl0_4, hC0_4⟩, ⟨_, _, rfl, ⟨A0_5, c0_5, rfl, hl0_5, hC0_5⟩, ⟨A0_6, c0_6, rfl, hl0_6, hC0_6⟩⟩⟩⟩⟩⟩⟩, ⟨g0_0, g0_1, g0_2, g0_3, g0_4, g0_5, g0_6⟩⟩ := (opens_struct0 Tryd.underlying61 (by kernel_rfl) (.more rfl (opens_int Tryd.underlying3 (by kernel_rfl)) (.more rfl (opens_int Tryd.underlying3 (by kernel_rfl)) (.more rfl (opens_int Tryd.underlying3 (by kernel_rfl)) (.more rfl (opens_int Tryd.underlying3 (by kernel_rfl)) (.more rfl (opens_slice Tryd.underlying39 (by kernel_rfl) (opens_int Tryd.underlying3 (by kernel_rfl))) (.more rfl (opens_slice Tryd.underlying39 (by kernel_rfl) (opens_int Tryd.underlying3 (by kernel_rfl))) (.one rfl (opens_slice Tryd.underlying41 (by kernel_rfl) (opens_slice Tryd.underlying39 (by kernel_rfl) (opens_int Tryd.underlying3 (by kernel_rfl)))))))))))).2 enc W 0 _ true fu0 _ _ hf0
  have e0 : cs0 = [Value.int .i64 a0_0, Value.int .i64 a0_1, Value.int .i64 a0_2, Value.int .i64 a0_3, Value.slice A0_4 l0_4.length c0_4, Value.slice A0_5 l0_5.length c0_5, Value.slice A0_6 l0_6.length c0_6] := hcs0
  subst e0
  obtain ⟨a1, rfl, rfl, rfl, w1⟩ := open_int Tryd.underlying3 (hval 1 3 v1 rfl rfl) h1
  clear hA0 hval0
  refine (HFnExactInsert.law a0_0 a0_1 a0_2 a0_3 _ _ l0_4 _ _ l0_5 _ _ l0_6 a1 W (Laid.of_laid2 hL) hC0_4 hl0_4 hC0_5 hl0_5 hC0_6 hl0_6 g0_0 g0_1 g0_2 g0_3 g0_4 g0_5 g0_6 (in64 w1)).mono fun e W' ⟨he, bel⟩ => ?_
  subst he
  exact ⟨_, rfl, _, _, _, [], _, [], hW', trodAll_mk1 (shut_bool Tryd.underlying4 _), (trodAll_cons_mk (Below.trod laidOut (by kernel_rfl) (of_decide_eq_true (by kernel_rfl)) k0 bel lt0) (trodAll_cons_mk (shut_int Tryd.underlying3 w1) trodAll_mk0)), rfl, bel.frame _, fun h => by cases h⟩
theorem over : Rows.fnExactInsertRow.holds Tryd.pinned (OpenSpec.ofChange Rows.fnExactInsertSpec) :=
  OpenClaim.holds_of_wide 13 Tryd.f13 rfl rfl rfl rfl rfl rfl rfl ⟨rfl, rfl, rfl, rfl, rfl⟩ rfl rfl rfl rfl rfl (by kernel_rfl) Tryd.func13 (by kernel_rfl)
    (of_decide_eq_true (by kernel_rfl)) (by unfold Func.isWrapper; first | (rw [if_pos (by decide +kernel)]; kernel_rfl) | (rw [if_neg (by decide +kernel)]; exact ⟨rfl, rfl⟩))
    (fun os started H enc _ => lifted os started H enc)
theorem row_ : Rows.FnExactInsertSaid := over
theorem card_ : Rows.FnExactInsertCardSaid :=
  Claim7.holds_tied_plain_at .later [] [.data, .data] true (true, "d85cee38985cf6c139ceacc26ef529c5cd4d31af0720967839191081f27504cb") false
    row_ (fun _ h => by cases h) (by kernel_rfl) (fun _ h => by cases h) fnExactInsert_row_tie rfl ⟨rfl, rfl⟩ (by kernel_rfl) rfl
    (fun f fn hf hfn => by
      obtain rfl : f = 13 := Option.some.inj ((show Tryd.prog.funcNamed "loop.example/g00491/laws.FnExactInsert" = some 13 by kernel_rfl).symm.trans hf) |>.symm
      obtain rfl : fn = Tryd.f13 := (Option.some.inj (Tryd.func13.symm.trans hfn)).symm
      exact ⟨by kernel_rfl, fun j t ht => by
        rw [Tryd.params13] at ht
        have hm : t ∈ [61, 3] := by simpa using Array.mem_of_getElem? ht
        have hall : ([61, 3].all fun u => !Tryd.prog.wantsStandIn u) = true := by kernel_rfl
        exact (show Tryd.prog.wantsStandIn t = false by simpa using List.all_eq_true.1 hall t hm)⟩)
    (by kernel_rfl)
#print axioms card_
end Go.Proofs.YtkpicmjncfhnmaaDoor.fnExactInsert
namespace Go.Proofs.YtkpicmjncfhnmaaDoor
/-- The card, under a short name, for the claim. -/
theorem fnExactInsert_holds : Rows.FnExactInsertCardSaid := fnExactInsert.card_
end Go.Proofs.YtkpicmjncfhnmaaDoor
