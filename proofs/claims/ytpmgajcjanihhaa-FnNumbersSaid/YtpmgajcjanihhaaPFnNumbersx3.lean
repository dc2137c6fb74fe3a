-- Written by this session's changed copy of the kit's printer (wip/patch_print.py): not the kit's own print.
import Derived.Test.YtpmgajcjanihhaaPFnNumbersx0
import Derived.Test.YtpmgajcjanihhaaPFnNumbersx1
import Derived.Test.YtpmgajcjanihhaaPFnNumbersx2
namespace Go.Proofs.Ytpmgajcjanihhaa.PFnNumbers
open Go.RowKit Go.Proofs.YtpmgajcjanihhaaW.PrintWords Go.Proofs.YtpmgajcjanihhaaW.PrintLast Go.Proofs.YtpmgajcjanihhaaW.PrintMore
attribute [local go_sem] max2_int min2_int max_two min_two max_three min_three max_four min_four   -- for this text's walks alone
set_option linter.unusedVariables false
set_option linter.unusedSimpArgs false

/-! ### laws_FnNumbers: function 8 -/
mutual
def laws_FnNumbers.j0 : Nat → List Int → ByteArray → List Int → Int → Option (Bool)
  | 0, _, _, _, _ => none
  | k + 1, x0, x4, x6, x7 => (impl_GetText.f k x6 x7).bind fun bt206 => (if bt206.2.2 = true then (if bt206.1.toList = x4.toList then (laws_FnNumbers.j1 k x0 x6 (bt206.2.1 != (x6.length : Int))) else (laws_FnNumbers.j1 k x0 x6 true)) else (laws_FnNumbers.j1 k x0 x6 true))
def laws_FnNumbers.j1 : Nat → List Int → List Int → Bool → Option (Bool)
  | 0, _, _, _ => none
  | k + 1, x0, x6, x77 => if x77 = true then (some false) else ((some (([] : List Int) : List Int)).bind fun y209 => (if y209.length + x6.length < 140737488355328 then ((some (y209 ++ x6 : List Int)).bind fun y212 => ((laws_at0.f x0 3).bind fun t215 => (if (x6.length : Int) = 0 then (none) else (if 0 ≤ (Int.tmod t215 (x6.length : Int)) then (if (Int.tmod t215 (x6.length : Int)) < (y212.length : Int) then ((laws_at0.f x0 4).bind fun t217 => ((impl_Crc.f k (y212.set ((Int.tmod t215 (x6.length : Int)) : Int).toNat (((rd y212 (Int.tmod t215 (x6.length : Int))) + ((wrap64 (1 + (Int.tmod t217 255))) % 256)) % 256))).bind fun t219 => ((impl_Crc.f k x6).bind fun t220 => (if t219 = t220 then (some false) else ((impl_Crc.f k x6).bind fun t221 => (some (decide (t221 ≥ 0)))))))) else (none)) else (none))))) else (none)))
end
def laws_FnNumbers.f (k : Nat) (l0 : List Int) : Option (Bool) := (laws_big.f l0).bind fun t182 => (if t182 = true then (some true) else ((spec_DrawPutNum.f k l0).bind fun t183 => ((spec_DrawPutText.f k l0).bind fun t184 => ((impl_PutNum.f k t183).bind fun t185 => ((some (([7] : List Int) : List Int)).bind fun y188 => (if y188.length + t185.length < 140737488355328 then ((some (y188 ++ t185 : List Int)).bind fun y191 => ((impl_PutText.f k t184).bind fun t194 => (if y191.length + t194.length < 140737488355328 then ((some (y191 ++ t194 : List Int)).bind fun y197 => ((spec_PutNum.f k t183).bind fun t200 => (if (t200.length : Int) > 0 then ((impl_GetNum.f k y197 1).bind fun bt203 => (if bt203.2.2 = true then (if bt203.1 = t183 then (if bt203.2.1 = (wrap64 (1 + (t185.length : Int))) then (laws_FnNumbers.j0 k l0 t184 y197 bt203.2.1) else (some false)) else (some false)) else (some false))) else (if (t185.length : Int) = 0 then (laws_FnNumbers.j0 k l0 t184 y197 1) else (some false))))) else (none)))) else (none)))))))
theorem laws_FnNumbers.mono_l : ∀ k, (∀ y0 y1 y2 y3, LeO (laws_FnNumbers.j0 k y0 y1 y2 y3) (laws_FnNumbers.j0 (k + 1) y0 y1 y2 y3)) ∧ (∀ y0 y1 y2, LeO (laws_FnNumbers.j1 k y0 y1 y2) (laws_FnNumbers.j1 (k + 1) y0 y1 y2))
  | 0 => ⟨fun _ _ _ _ r h => by simp [laws_FnNumbers.j0] at h, fun _ _ _ r h => by simp [laws_FnNumbers.j1] at h⟩
  | k + 1 => by
    obtain ⟨ih0, ih1⟩ := laws_FnNumbers.mono_l k
    refine ⟨?_, ?_⟩
    · intro y0 y1 y2 y3
      unfold laws_FnNumbers.j0
      repeat' first
      | (with_reducible exact ih0 _ _ _ _)
      | (with_reducible exact ih1 _ _ _)
      | (with_reducible exact impl_Crc.mono _ _)
      | (with_reducible exact impl_GetNum.mono _ _ _)
      | (with_reducible exact impl_GetText.mono _ _ _)
      | (with_reducible exact impl_PutNum.mono _ _)
      | (with_reducible exact impl_PutText.mono _ _)
      | (with_reducible exact spec_DrawPutNum.mono _ _)
      | (with_reducible exact spec_DrawPutText.mono _ _)
      | (with_reducible exact spec_PutNum.mono _ _)
      | (with_reducible exact LeO.refl _)
      | (with_reducible exact LeO.none _)
      | (with_reducible refine LeO.ite ?_ ?_)
      | (with_reducible refine LeO.bind ?_ (fun _ => ?_))
      | exact ih0 _ _ _ _
      | exact ih1 _ _ _
      | exact impl_Crc.mono _ _
      | exact impl_GetNum.mono _ _ _
      | exact impl_GetText.mono _ _ _
      | exact impl_PutNum.mono _ _
      | exact impl_PutText.mono _ _
      | exact spec_DrawPutNum.mono _ _
      | exact spec_DrawPutText.mono _ _
      | exact spec_PutNum.mono _ _
      | exact LeO.none _
      | refine LeO.ite ?_ ?_
      | refine LeO.bind ?_ (fun _ => ?_)
    · intro y0 y1 y2
      unfold laws_FnNumbers.j1
      repeat' first
      | (with_reducible exact ih0 _ _ _ _)
      | (with_reducible exact ih1 _ _ _)
      | (with_reducible exact impl_Crc.mono _ _)
      | (with_reducible exact impl_GetNum.mono _ _ _)
      | (with_reducible exact impl_GetText.mono _ _ _)
      | (with_reducible exact impl_PutNum.mono _ _)
      | (with_reducible exact impl_PutText.mono _ _)
      | (with_reducible exact spec_DrawPutNum.mono _ _)
      | (with_reducible exact spec_DrawPutText.mono _ _)
      | (with_reducible exact spec_PutNum.mono _ _)
      | (with_reducible exact LeO.refl _)
      | (with_reducible exact LeO.none _)
      | (with_reducible refine LeO.ite ?_ ?_)
      | (with_reducible refine LeO.bind ?_ (fun _ => ?_))
      | exact ih0 _ _ _ _
      | exact ih1 _ _ _
      | exact impl_Crc.mono _ _
      | exact impl_GetNum.mono _ _ _
      | exact impl_GetText.mono _ _ _
      | exact impl_PutNum.mono _ _
      | exact impl_PutText.mono _ _
      | exact spec_DrawPutNum.mono _ _
      | exact spec_DrawPutText.mono _ _
      | exact spec_PutNum.mono _ _
      | exact LeO.none _
      | refine LeO.ite ?_ ?_
      | refine LeO.bind ?_ (fun _ => ?_)
theorem laws_FnNumbers.mono : ∀ a0 k, LeO (laws_FnNumbers.f k a0) (laws_FnNumbers.f (k + 1) a0) := by
  intro a0 k
  obtain ⟨ih0, ih1⟩ := laws_FnNumbers.mono_l k
  unfold laws_FnNumbers.f
  repeat' first
      | (with_reducible exact ih0 _ _ _ _)
      | (with_reducible exact ih1 _ _ _)
      | (with_reducible exact impl_Crc.mono _ _)
      | (with_reducible exact impl_GetNum.mono _ _ _)
      | (with_reducible exact impl_GetText.mono _ _ _)
      | (with_reducible exact impl_PutNum.mono _ _)
      | (with_reducible exact impl_PutText.mono _ _)
      | (with_reducible exact spec_DrawPutNum.mono _ _)
      | (with_reducible exact spec_DrawPutText.mono _ _)
      | (with_reducible exact spec_PutNum.mono _ _)
      | (with_reducible exact LeO.refl _)
      | (with_reducible exact LeO.none _)
      | (with_reducible refine LeO.ite ?_ ?_)
      | (with_reducible refine LeO.bind ?_ (fun _ => ?_))
      | exact ih0 _ _ _ _
      | exact ih1 _ _ _
      | exact impl_Crc.mono _ _
      | exact impl_GetNum.mono _ _ _
      | exact impl_GetText.mono _ _ _
      | exact impl_PutNum.mono _ _
      | exact impl_PutText.mono _ _
      | exact spec_DrawPutNum.mono _ _
      | exact spec_DrawPutText.mono _ _
      | exact spec_PutNum.mono _ _
      | exact LeO.none _
      | refine LeO.ite ?_ ?_
      | refine LeO.bind ?_ (fun _ => ?_)
def laws_FnNumbers.T20 : Bool × List (List Nat × List Nat) := (true, [([], []), ([], []), ([], []), ([], []), ([2, 3], [2, 3]), ([4], [4]), ([], []), ([6], [6]), ([7], [7]), ([8], [8]), ([9], [9]), ([5, 10], [5, 10]), ([0, 1, 0, 1, 2, 3, 4, 5, 6, 7, 8, 9, 10, 11], [0, 1]), ([12, 11, 7, 0, 1, 2, 3, 4, 5, 6, 7, 8, 9, 10, 11], [11, 12])])
def laws_FnNumbers.B20 : List Nat := [0, 0, 0, 0, 12, 28, 0, 64, 192, 448, 960, 2044, 4095, 8191]
theorem laws_FnNumbers.tab20 : rtab .any (opsOf Try.f8 20) = laws_FnNumbers.T20 := by kernel_rfl
theorem laws_FnNumbers.bits20 : waitsOk laws_FnNumbers.T20.2 laws_FnNumbers.B20 = true := by kernel_rfl
set_option maxHeartbeats 8000000 in
set_option maxRecDepth 100000 in
theorem laws_FnNumbers.calls (k : Nat) (A0 : Option Addr) (c0 : Nat) (l0 : List Int) (r : Bool) (w : World) (hr0 : Kd.C (Kd.int .u8) w A0 l0.length l0) (hc0 : l0.length ≤ c0) (hrt : Aside0 (r = true)) (h : laws_FnNumbers.f k l0 = some r) :
    Calls Try.prog 8 #[.slice A0 l0.length c0] w fun e w' => e = .returned (.bool r) ∧ Below w.heap.size w w' := by
  have HR0 := Aside0.mk hr0
  have HC0 := Aside0.mk hc0
  clear hr0 hc0
  have HB := Aside0.mk (Below.refl w.heap.size w)
  have H : ((laws_big.f l0).bind fun t182 => (if t182 = true then (some true) else ((spec_DrawPutNum.f k l0).bind fun t183 => ((spec_DrawPutText.f k l0).bind fun t184 => ((impl_PutNum.f k t183).bind fun t185 => ((some (([7] : List Int) : List Int)).bind fun y188 => (if y188.length + t185.length < 140737488355328 then ((some (y188 ++ t185 : List Int)).bind fun y191 => ((impl_PutText.f k t184).bind fun t194 => (if y191.length + t194.length < 140737488355328 then ((some (y191 ++ t194 : List Int)).bind fun y197 => ((spec_PutNum.f k t183).bind fun t200 => (if (t200.length : Int) > 0 then ((impl_GetNum.f k y197 1).bind fun bt203 => (if bt203.2.2 = true then (if bt203.1 = t183 then (if bt203.2.1 = (wrap64 (1 + (t185.length : Int))) then (laws_FnNumbers.j0 k l0 t184 y197 bt203.2.1) else (some false)) else (some false)) else (some false))) else (if (t185.length : Int) = 0 then (laws_FnNumbers.j0 k l0 t184 y197 1) else (some false))))) else (none)))) else (none)))))))) = some r := h
  clear h
  replace H := Option.bind_eq_some_iff.mp H
  obtain ⟨t182, A20, H⟩ := H
  replace H : (if t182 = true then (some true) else ((spec_DrawPutNum.f k l0).bind fun t183 => ((spec_DrawPutText.f k l0).bind fun t184 => ((impl_PutNum.f k t183).bind fun t185 => ((some (([7] : List Int) : List Int)).bind fun y188 => (if y188.length + t185.length < 140737488355328 then ((some (y188 ++ t185 : List Int)).bind fun y191 => ((impl_PutText.f k t184).bind fun t194 => (if y191.length + t194.length < 140737488355328 then ((some (y191 ++ t194 : List Int)).bind fun y197 => ((spec_PutNum.f k t183).bind fun t200 => (if (t200.length : Int) > 0 then ((impl_GetNum.f k y197 1).bind fun bt203 => (if bt203.2.2 = true then (if bt203.1 = t183 then (if bt203.2.1 = (wrap64 (1 + (t185.length : Int))) then (laws_FnNumbers.j0 k l0 t184 y197 bt203.2.1) else (some false)) else (some false)) else (some false))) else (if (t185.length : Int) = 0 then (laws_FnNumbers.j0 k l0 t184 y197 1) else (some false))))) else (none)))) else (none))))))) = some r := H
  have A2 := Aside0.mk A20
  clear A20
  by_cases c3 : t182 = true
  · subst c3
    have H1 : (some true) = some r := by rw [if_pos rfl] at H; exact H
    clear H
    have H := H1
    clear H1
    obtain rfl := Option.some.inj H
    simp only [Option.some.injEq, Prod.mk.injEq] at H
    obtain ⟨rfl⟩ := H
    go_enter Try.func8, Try.ntmps8
    go_wp2_with (first | ((with_reducible refine gate_callee (f := 30) rfl ?_); refine goesL_ (some 17) rfl rfl Try.func30 (by kernel_rfl) rfl #[.slice A0 l0.length c0] rfl (by (try simp only [List.map_toArray, List.map_cons, List.map_nil]); first | done | rfl | (simp only [List.length_drop, List.length_take]; rfl)) ?_; (with_reducible refine (laws_big.calls _ _ l0 true _ ?side1 ?side2 A2.out).mono ?_); (case side1 => repeat (first | exact HR0.out | (with_reducible refine Kd.C_alloc ?_ _) | (with_reducible refine Kd.C_drewN ?_ _) | (with_reducible refine Kd.C_drew ?_))); (case side2 => exact HC0.out); rintro e w' ⟨rfl, ⟨nd, rfl⟩⟩; refine ⟨_, rfl, ?_⟩))
    go_ret
    exact ⟨by first | rfl | (simp [errW_none, errW_some] <;> rfl) | (simp [*, errW_none, errW_some] <;> rfl), by repeat (first | (with_reducible first | exact HB.out | apply below_alloc | apply pw_below_drewN | apply below_drew1) | exact HB.out)⟩
  · replace c3 := Bool.eq_false_iff.mpr c3
    subst c3
    have H1 : ((spec_DrawPutNum.f k l0).bind fun t183 => ((spec_DrawPutText.f k l0).bind fun t184 => ((impl_PutNum.f k t183).bind fun t185 => ((some (([7] : List Int) : List Int)).bind fun y188 => (if y188.length + t185.length < 140737488355328 then ((some (y188 ++ t185 : List Int)).bind fun y191 => ((impl_PutText.f k t184).bind fun t194 => (if y191.length + t194.length < 140737488355328 then ((some (y191 ++ t194 : List Int)).bind fun y197 => ((spec_PutNum.f k t183).bind fun t200 => (if (t200.length : Int) > 0 then ((impl_GetNum.f k y197 1).bind fun bt203 => (if bt203.2.2 = true then (if bt203.1 = t183 then (if bt203.2.1 = (wrap64 (1 + (t185.length : Int))) then (laws_FnNumbers.j0 k l0 t184 y197 bt203.2.1) else (some false)) else (some false)) else (some false))) else (if (t185.length : Int) = 0 then (laws_FnNumbers.j0 k l0 t184 y197 1) else (some false))))) else (none)))) else (none)))))) = some r := by rw [if_neg (show ¬ (false = true) by decide)] at H; exact H
    clear H
    have H := H1
    clear H1
    replace H := Option.bind_eq_some_iff.mp H
    obtain ⟨t183, A40, H⟩ := H
    replace H : ((spec_DrawPutText.f k l0).bind fun t184 => ((impl_PutNum.f k t183).bind fun t185 => ((some (([7] : List Int) : List Int)).bind fun y188 => (if y188.length + t185.length < 140737488355328 then ((some (y188 ++ t185 : List Int)).bind fun y191 => ((impl_PutText.f k t184).bind fun t194 => (if y191.length + t194.length < 140737488355328 then ((some (y191 ++ t194 : List Int)).bind fun y197 => ((spec_PutNum.f k t183).bind fun t200 => (if (t200.length : Int) > 0 then ((impl_GetNum.f k y197 1).bind fun bt203 => (if bt203.2.2 = true then (if bt203.1 = t183 then (if bt203.2.1 = (wrap64 (1 + (t185.length : Int))) then (laws_FnNumbers.j0 k l0 t184 y197 bt203.2.1) else (some false)) else (some false)) else (some false))) else (if (t185.length : Int) = 0 then (laws_FnNumbers.j0 k l0 t184 y197 1) else (some false))))) else (none)))) else (none))))) = some r := H
    have A4 := Aside0.mk A40
    clear A40
    replace H := Option.bind_eq_some_iff.mp H
    obtain ⟨t184, A50, H⟩ := H
    replace H : ((impl_PutNum.f k t183).bind fun t185 => ((some (([7] : List Int) : List Int)).bind fun y188 => (if y188.length + t185.length < 140737488355328 then ((some (y188 ++ t185 : List Int)).bind fun y191 => ((impl_PutText.f k t184).bind fun t194 => (if y191.length + t194.length < 140737488355328 then ((some (y191 ++ t194 : List Int)).bind fun y197 => ((spec_PutNum.f k t183).bind fun t200 => (if (t200.length : Int) > 0 then ((impl_GetNum.f k y197 1).bind fun bt203 => (if bt203.2.2 = true then (if bt203.1 = t183 then (if bt203.2.1 = (wrap64 (1 + (t185.length : Int))) then (laws_FnNumbers.j0 k l0 t184 y197 bt203.2.1) else (some false)) else (some false)) else (some false))) else (if (t185.length : Int) = 0 then (laws_FnNumbers.j0 k l0 t184 y197 1) else (some false))))) else (none)))) else (none)))) = some r := H
    have A5 := Aside0.mk A50
    clear A50
    replace H := Option.bind_eq_some_iff.mp H
    obtain ⟨t185, A60, H⟩ := H
    replace H : ((some (([7] : List Int) : List Int)).bind fun y188 => (if y188.length + t185.length < 140737488355328 then ((some (y188 ++ t185 : List Int)).bind fun y191 => ((impl_PutText.f k t184).bind fun t194 => (if y191.length + t194.length < 140737488355328 then ((some (y191 ++ t194 : List Int)).bind fun y197 => ((spec_PutNum.f k t183).bind fun t200 => (if (t200.length : Int) > 0 then ((impl_GetNum.f k y197 1).bind fun bt203 => (if bt203.2.2 = true then (if bt203.1 = t183 then (if bt203.2.1 = (wrap64 (1 + (t185.length : Int))) then (laws_FnNumbers.j0 k l0 t184 y197 bt203.2.1) else (some false)) else (some false)) else (some false))) else (if (t185.length : Int) = 0 then (laws_FnNumbers.j0 k l0 t184 y197 1) else (some false))))) else (none)))) else (none))) = some r := H
    have A6 := Aside0.mk A60
    clear A60
    obtain ⟨y188, hy188⟩ : ∃ y_ : List Int, y_ = (([7] : List Int)) := ⟨_, rfl⟩
    replace H : (if y188.length + t185.length < 140737488355328 then ((some (y188 ++ t185 : List Int)).bind fun y191 => ((impl_PutText.f k t184).bind fun t194 => (if y191.length + t194.length < 140737488355328 then ((some (y191 ++ t194 : List Int)).bind fun y197 => ((spec_PutNum.f k t183).bind fun t200 => (if (t200.length : Int) > 0 then ((impl_GetNum.f k y197 1).bind fun bt203 => (if bt203.2.2 = true then (if bt203.1 = t183 then (if bt203.2.1 = (wrap64 (1 + (t185.length : Int))) then (laws_FnNumbers.j0 k l0 t184 y197 bt203.2.1) else (some false)) else (some false)) else (some false))) else (if (t185.length : Int) = 0 then (laws_FnNumbers.j0 k l0 t184 y197 1) else (some false))))) else (none)))) else (none)) = some r := by first | (rw [hy188]; with_reducible exact H) | (have H2_ := (Option.bind_some _ _).symm.trans H; rw [hy188]; with_reducible exact H2_) | (have H2_ := (Option.bind_some _ _).symm.trans H; with_reducible exact H2_) | with_reducible exact H | (rw [hy188]; exact H) | exact H
    have Ny188 := Aside0.mk hy188
    clear hy188
    by_cases c7 : y188.length + t185.length < 140737488355328
    · rw [if_pos c7] at H
      have LMc7 := Aside0.mk c7
      clear c7
      obtain ⟨y191, hy191⟩ : ∃ y_ : List Int, y_ = (y188 ++ t185) := ⟨_, rfl⟩
      replace H : ((impl_PutText.f k t184).bind fun t194 => (if y191.length + t194.length < 140737488355328 then ((some (y191 ++ t194 : List Int)).bind fun y197 => ((spec_PutNum.f k t183).bind fun t200 => (if (t200.length : Int) > 0 then ((impl_GetNum.f k y197 1).bind fun bt203 => (if bt203.2.2 = true then (if bt203.1 = t183 then (if bt203.2.1 = (wrap64 (1 + (t185.length : Int))) then (laws_FnNumbers.j0 k l0 t184 y197 bt203.2.1) else (some false)) else (some false)) else (some false))) else (if (t185.length : Int) = 0 then (laws_FnNumbers.j0 k l0 t184 y197 1) else (some false))))) else (none))) = some r := by first | (rw [hy191]; with_reducible exact H) | (have H2_ := (Option.bind_some _ _).symm.trans H; rw [hy191]; with_reducible exact H2_) | (have H2_ := (Option.bind_some _ _).symm.trans H; with_reducible exact H2_) | with_reducible exact H | (rw [hy191]; exact H) | exact H
      have Ny191 := Aside0.mk hy191
      clear hy191
      replace H := Option.bind_eq_some_iff.mp H
      obtain ⟨t194, A80, H⟩ := H
      replace H : (if y191.length + t194.length < 140737488355328 then ((some (y191 ++ t194 : List Int)).bind fun y197 => ((spec_PutNum.f k t183).bind fun t200 => (if (t200.length : Int) > 0 then ((impl_GetNum.f k y197 1).bind fun bt203 => (if bt203.2.2 = true then (if bt203.1 = t183 then (if bt203.2.1 = (wrap64 (1 + (t185.length : Int))) then (laws_FnNumbers.j0 k l0 t184 y197 bt203.2.1) else (some false)) else (some false)) else (some false))) else (if (t185.length : Int) = 0 then (laws_FnNumbers.j0 k l0 t184 y197 1) else (some false))))) else (none)) = some r := H
      have A8 := Aside0.mk A80
      clear A80
      by_cases c9 : y191.length + t194.length < 140737488355328
      · rw [if_pos c9] at H
        have LMc9 := Aside0.mk c9
        clear c9
        obtain ⟨y197, hy197⟩ : ∃ y_ : List Int, y_ = (y191 ++ t194) := ⟨_, rfl⟩
        replace H : ((spec_PutNum.f k t183).bind fun t200 => (if (t200.length : Int) > 0 then ((impl_GetNum.f k y197 1).bind fun bt203 => (if bt203.2.2 = true then (if bt203.1 = t183 then (if bt203.2.1 = (wrap64 (1 + (t185.length : Int))) then (laws_FnNumbers.j0 k l0 t184 y197 bt203.2.1) else (some false)) else (some false)) else (some false))) else (if (t185.length : Int) = 0 then (laws_FnNumbers.j0 k l0 t184 y197 1) else (some false)))) = some r := by first | (rw [hy197]; with_reducible exact H) | (have H2_ := (Option.bind_some _ _).symm.trans H; rw [hy197]; with_reducible exact H2_) | (have H2_ := (Option.bind_some _ _).symm.trans H; with_reducible exact H2_) | with_reducible exact H | (rw [hy197]; exact H) | exact H
        have Ny197 := Aside0.mk hy197
        clear hy197
        replace H := Option.bind_eq_some_iff.mp H
        obtain ⟨t200, A100, H⟩ := H
        replace H : (if (t200.length : Int) > 0 then ((impl_GetNum.f k y197 1).bind fun bt203 => (if bt203.2.2 = true then (if bt203.1 = t183 then (if bt203.2.1 = (wrap64 (1 + (t185.length : Int))) then (laws_FnNumbers.j0 k l0 t184 y197 bt203.2.1) else (some false)) else (some false)) else (some false))) else (if (t185.length : Int) = 0 then (laws_FnNumbers.j0 k l0 t184 y197 1) else (some false))) = some r := H
        have A10 := Aside0.mk A100
        clear A100
        have HC11 := Aside0.mk H
        clear H
        go_enter Try.func8, Try.ntmps8
        go_upto_if 33 with (first | ((with_reducible refine gate_callee (f := 30) rfl ?_); refine goesL_ (some 17) rfl rfl Try.func30 (by kernel_rfl) rfl #[.slice A0 l0.length c0] rfl (by (try simp only [List.map_toArray, List.map_cons, List.map_nil]); first | done | rfl | (simp only [List.length_drop, List.length_take]; rfl)) ?_; (with_reducible refine (laws_big.calls _ _ l0 false _ ?side1 ?side2 A2.out).mono ?_); (case side1 => repeat (first | exact HR0.out | (with_reducible refine Kd.C_alloc ?_ _) | (with_reducible refine Kd.C_drewN ?_ _) | (with_reducible refine Kd.C_drew ?_))); (case side2 => exact HC0.out); rintro e w' ⟨rfl, ⟨nd, rfl⟩⟩; refine ⟨_, rfl, ?_⟩) | ((with_reducible refine gate_callee (f := 31) rfl ?_); refine goesL_ (some 19) rfl rfl Try.func31 (by kernel_rfl) rfl #[.slice A0 l0.length c0] rfl (by (try simp only [List.map_toArray, List.map_cons, List.map_nil]); first | done | rfl | (simp only [List.length_drop, List.length_take]; rfl)) ?_; (with_reducible refine (spec_DrawPutNum.calls k _ _ l0 t183 _ ?side1 ?side2 A4.out).mono ?_); (case side1 => repeat (first | exact HR0.out | (with_reducible refine Kd.C_alloc ?_ _) | (with_reducible refine Kd.C_drewN ?_ _) | (with_reducible refine Kd.C_drew ?_))); (case side2 => exact HC0.out); rintro e w12 ⟨rfl, hb⟩; refine ⟨_, rfl, ?_⟩; have n0_ := Aside0.mk (below_step (by repeat (first | (with_reducible first | exact HB.out | apply below_alloc | apply pw_below_drewN | apply below_drew1) | exact HB.out)) hb); clear HB; have HB := n0_; clear n0_; (try clear hb); (try clear hb2); (try clear hk); (try clear hi)) | ((with_reducible refine gate_callee (f := 32) rfl ?_); refine goesL_ (some 21) rfl rfl Try.func32 (by kernel_rfl) rfl #[.slice A0 l0.length c0] rfl (by (try simp only [List.map_toArray, List.map_cons, List.map_nil]); first | done | rfl | (simp only [List.length_drop, List.length_take]; rfl)) ?_; (with_reducible refine (spec_DrawPutText.calls k _ _ l0 t184 _ ?side1 ?side2 A5.out).mono ?_); (case side1 => repeat (first | exact (Kd.C_below HR0.out HB.out) | (with_reducible refine Kd.C_alloc ?_ _) | (with_reducible refine Kd.C_drewN ?_ _) | (with_reducible refine Kd.C_drew ?_))); (case side2 => exact HC0.out); rintro e w13 ⟨rfl, hb⟩; refine ⟨_, rfl, ?_⟩; have n0_ := Aside0.mk (below_step (by repeat (first | (with_reducible first | exact HB.out | apply below_alloc | apply pw_below_drewN | apply below_drew1) | exact HB.out)) hb); clear HB; have HB := n0_; clear n0_; (try clear hb); (try clear hb2); (try clear hk); (try clear hi)) | ((with_reducible refine gate_callee (f := 33) rfl ?_); refine goesL_ (some 23) rfl rfl Try.func33 (by kernel_rfl) rfl #[.int .i64 t183] rfl (by (try simp only [List.map_toArray, List.map_cons, List.map_nil]); first | done | rfl | (simp only [List.length_drop, List.length_take]; rfl)) ?_; (with_reducible refine (impl_PutNum.calls k t183 t185 _ A6.out).mono ?_); rintro e w14 ⟨v186, rfl, ho0, hb⟩; refine ⟨_, rfl, ?_⟩; have n0_ := Aside0.mk (Kd.R_lower ho0 (below_size (by repeat (first | (with_reducible first | exact HB.out | apply below_alloc | apply pw_below_drewN | apply below_drew1) | exact HB.out)))); have n1_ := Aside0.mk (below_step (by repeat (first | (with_reducible first | exact HB.out | apply below_alloc | apply pw_below_drewN | apply below_drew1) | exact HB.out)) hb); clear HB; have HO187 := n0_; have HB := n1_; clear n0_ n1_; (try clear hb); (try clear hb2); (try clear hk); (try clear hi); (try clear ho0)) | ((with_reducible refine gate_dst (N := 24) rfl ?_); (try (refine gate_guard (by rfl) ?_; dsimp only)); refine Kd.R_lit (Kd.int .u8) _ 5 ?hg (N := 24) ?hd (xs := ([7] : List Int)) (inner := [.int .u8 7]) (ok := fun _ => True) (okp := fun _ => True) ?hr ?hp (fun _ hk => hk) trivial (Below.refl _ _) (Nat.le_refl _) (by simp) ?_; (case hd => rfl); (case hg => rfl); (case hr => first | (go_simp; done) | (go_simp; rfl)); (case hp => exact (Reps.one (show Kd.M (Kd.int .u8) _ _ _ 7 [.int .u8 7] from rfl) (Reps.none _ _))); intro v189 w15 ho16 hb hg_ hnew_; clear hg_ hnew_; (first | rw [← Ny188.out] at ho16 | (simp only [Int.reduceToNat] at ho16; rw [← Ny188.out] at ho16)); have n0_ := Aside0.mk (Kd.R_elder' (by (with_reducible repeat (first | apply Kd.R_alloc | apply Kd.R_drewN | apply Kd.R_drew)); exact HO187.out) (Kd.R_base ho16) hb); have n1_ := Aside0.mk (Kd.R_lower (Kd.R_new' ho16 (Kd.R_lt (by (with_reducible repeat (first | apply Kd.R_alloc | apply Kd.R_drewN | apply Kd.R_drew)); exact HO187.out))) (below_size (by repeat (first | (with_reducible first | exact HB.out | apply below_alloc | apply pw_below_drewN | apply below_drew1) | exact HB.out)))); have n2_ := Aside0.mk (below_step (by repeat (first | (with_reducible first | exact HB.out | apply below_alloc | apply pw_below_drewN | apply below_drew1) | exact HB.out)) hb); clear HO187; clear HB; have HO187 := n0_; have HO190 := n1_; have HB := n2_; clear n0_ n1_ n2_; clear hb ho16; obtain ⟨Ao18, co18, eo18⟩ := Kd.R_slice HO187.out; subst eo18) | ((with_reducible refine gate_builtin (b := .append) (xs := #[.tmp 24, .tmp 25]) rfl ?_); (try (refine gate_guard (by rfl) ?_; dsimp only)); at_builtin; refine Kd.R_append_rows (Kd.int .u8) (w0 := w) w.heap.size rfl (.tmp 24) (.tmp 25) 29 5 (.int .u8 0) 1 rfl Try.underlying29 info5 rfl (by decide) (by omega) v189 y188 t185 _ _ _ (fun k_ => some k_ ≠ (.slice Ao18 t185.length co18 : Value).ownBlock) (fun _ => False) rfl rfl ?aO ?aR (fun _ _ h => h) (fun _ h => h.elim) ?aF ?aB ?aS ?aL ?_; (case aR => repeat (first | exact (Kd.R_reads' HO187.out).2.2 | (with_reducible refine Kd.C_alloc ?_ _) | (with_reducible refine Kd.C_drewN ?_ _) | (with_reducible refine Kd.C_drew ?_))); (case aB => exact (by repeat (first | (with_reducible first | exact HB.out | apply below_alloc | apply pw_below_drewN | apply below_drew1) | exact HB.out))); (case aF => exact (fun k_ hk => Kd.fresh' (Kd.R_lt (by (with_reducible repeat (first | apply Kd.R_alloc | apply Kd.R_drewN | apply Kd.R_drew)); exact HO187.out)) k_ hk)); (case aO => exact (by (with_reducible repeat (first | apply Kd.R_alloc | apply Kd.R_drewN | apply Kd.R_drew)); exact Kd.R_mono HO190.out (fun _ hk => hk.2))); (case aS => exact (below_size (by repeat (first | (with_reducible first | exact HB.out | apply below_alloc | apply pw_below_drewN | apply below_drew1) | exact HB.out)))); (case aL => have := LMc7.out; omega); intro v192 w17 ho hb hg hat; rw [← Ny191.out] at ho; have n0_ := Aside0.mk (Kd.R_after (ok := (fun _ => True)) (by (with_reducible repeat (first | apply Kd.R_alloc | apply Kd.R_drewN | apply Kd.R_drew)); exact HO187.out) hg hat); have n1_ := Aside0.mk (hb); have n2_ := Aside0.mk (ho); clear HO187; clear HB; clear HO190; have HO187 := n0_; have HB := n1_; have HO193 := n2_; clear n0_ n1_ n2_; clear ho hb hg hat) | ((with_reducible refine gate_callee (f := 34) rfl ?_); refine goesL_ (some 28) rfl rfl Try.func34 (by kernel_rfl) rfl #[.string t184] rfl (by (try simp only [List.map_toArray, List.map_cons, List.map_nil]); first | done | rfl | (simp only [List.length_drop, List.length_take]; rfl)) ?_; (with_reducible refine (impl_PutText.calls k t184 t194 _ A8.out).mono ?_); rintro e w19 ⟨v195, rfl, ho0, hb⟩; refine ⟨_, rfl, ?_⟩; have n0_ := Aside0.mk (Kd.R_elder' (by (with_reducible repeat (first | apply Kd.R_alloc | apply Kd.R_drewN | apply Kd.R_drew)); exact HO187.out) (Kd.R_base ho0) hb); have n1_ := Aside0.mk (Kd.R_elder' (by (with_reducible repeat (first | apply Kd.R_alloc | apply Kd.R_drewN | apply Kd.R_drew)); exact HO193.out) (Kd.R_base ho0) hb); have n2_ := Aside0.mk (Kd.R_lower (Kd.R_new' (Kd.R_new' ho0 (Kd.R_lt (by (with_reducible repeat (first | apply Kd.R_alloc | apply Kd.R_drewN | apply Kd.R_drew)); exact HO187.out))) (Kd.R_lt (by (with_reducible repeat (first | apply Kd.R_alloc | apply Kd.R_drewN | apply Kd.R_drew)); exact HO193.out))) (below_size (by repeat (first | (with_reducible first | exact HB.out | apply below_alloc | apply pw_below_drewN | apply below_drew1) | exact HB.out)))); have n3_ := Aside0.mk (below_step (by repeat (first | (with_reducible first | exact HB.out | apply below_alloc | apply pw_below_drewN | apply below_drew1) | exact HB.out)) hb); clear HO187; clear HO193; clear HB; have HO187 := n0_; have HO193 := n1_; have HO196 := n2_; have HB := n3_; clear n0_ n1_ n2_ n3_; (try clear hb); (try clear hb2); (try clear hk); (try clear hi); (try clear ho0); obtain ⟨Ao21, co21, eo21⟩ := Kd.R_slice HO196.out; subst eo21) | ((with_reducible refine gate_builtin (b := .append) (xs := #[.tmp 26, .tmp 28]) rfl ?_); (try (refine gate_guard (by rfl) ?_; dsimp only)); at_builtin; refine Kd.R_append_rows (Kd.int .u8) (w0 := w) w.heap.size rfl (.tmp 26) (.tmp 28) 29 5 (.int .u8 0) 1 rfl Try.underlying29 info5 rfl (by decide) (by omega) v192 y191 t194 _ _ _ (fun k_ => some k_ ≠ (.slice Ao18 t185.length co18 : Value).ownBlock ∧ some k_ ≠ (.slice Ao21 t194.length co21 : Value).ownBlock) (fun _ => False) rfl rfl ?aO ?aR (fun _ _ h => h) (fun _ h => h.elim) ?aF ?aB ?aS ?aL ?_; (case aR => repeat (first | exact (Kd.R_reads' HO196.out).2.2 | (with_reducible refine Kd.C_alloc ?_ _) | (with_reducible refine Kd.C_drewN ?_ _) | (with_reducible refine Kd.C_drew ?_))); (case aB => exact (by repeat (first | (with_reducible first | exact HB.out | apply below_alloc | apply pw_below_drewN | apply below_drew1) | exact HB.out))); (case aF => exact (fun k_ hk => ⟨Kd.fresh' (Kd.R_lt (by (with_reducible repeat (first | apply Kd.R_alloc | apply Kd.R_drewN | apply Kd.R_drew)); exact HO187.out)) k_ hk, Kd.fresh' (Kd.R_lt (by (with_reducible repeat (first | apply Kd.R_alloc | apply Kd.R_drewN | apply Kd.R_drew)); exact HO196.out)) k_ hk⟩)); (case aO => exact (by (with_reducible repeat (first | apply Kd.R_alloc | apply Kd.R_drewN | apply Kd.R_drew)); exact HO193.out)); (case aS => exact (below_size (by repeat (first | (with_reducible first | exact HB.out | apply below_alloc | apply pw_below_drewN | apply below_drew1) | exact HB.out)))); (case aL => have := LMc9.out; omega); intro v198 w20 ho hb hg hat; rw [← Ny197.out] at ho; have n0_ := Aside0.mk (Kd.R_after (ok := (fun k_ => some k_ ≠ (.slice Ao21 t194.length co21 : Value).ownBlock)) (by (with_reducible repeat (first | apply Kd.R_alloc | apply Kd.R_drewN | apply Kd.R_drew)); exact Kd.R_mono HO187.out (fun _ hk => ⟨hk.2, hk.1.2⟩)) hg hat); have n1_ := Aside0.mk (Kd.R_after (ok := (fun k_ => some k_ ≠ (.slice Ao18 t185.length co18 : Value).ownBlock)) (by (with_reducible repeat (first | apply Kd.R_alloc | apply Kd.R_drewN | apply Kd.R_drew)); exact Kd.R_mono HO196.out (fun _ hk => ⟨hk.1.2, hk.2⟩)) hg hat); have n2_ := Aside0.mk (hb); have n3_ := Aside0.mk (ho); clear HO187; clear HO196; clear HB; clear HO193; have HO187 := n0_; have HO196 := n1_; have HB := n2_; have HO199 := n3_; clear n0_ n1_ n2_ n3_; clear ho hb hg hat) | ((with_reducible refine gate_callee (f := 35) rfl ?_); refine goesL_ (some 31) rfl rfl Try.func35 (by kernel_rfl) rfl #[.int .i64 t183] rfl (by (try simp only [List.map_toArray, List.map_cons, List.map_nil]); first | done | rfl | (simp only [List.length_drop, List.length_take]; rfl)) ?_; (with_reducible refine (spec_PutNum.calls k t183 t200 _ A10.out).mono ?_); rintro e w22 ⟨v201, rfl, ho0, hb⟩; refine ⟨_, rfl, ?_⟩; have n0_ := Aside0.mk (Kd.R_elder' (by (with_reducible repeat (first | apply Kd.R_alloc | apply Kd.R_drewN | apply Kd.R_drew)); exact HO187.out) (Kd.R_base ho0) hb); have n1_ := Aside0.mk (Kd.R_elder' (by (with_reducible repeat (first | apply Kd.R_alloc | apply Kd.R_drewN | apply Kd.R_drew)); exact HO196.out) (Kd.R_base ho0) hb); have n2_ := Aside0.mk (Kd.R_elder' (by (with_reducible repeat (first | apply Kd.R_alloc | apply Kd.R_drewN | apply Kd.R_drew)); exact HO199.out) (Kd.R_base ho0) hb); have n3_ := Aside0.mk (Kd.R_lower (Kd.R_new' (Kd.R_new' (Kd.R_new' ho0 (Kd.R_lt (by (with_reducible repeat (first | apply Kd.R_alloc | apply Kd.R_drewN | apply Kd.R_drew)); exact HO187.out))) (Kd.R_lt (by (with_reducible repeat (first | apply Kd.R_alloc | apply Kd.R_drewN | apply Kd.R_drew)); exact HO196.out))) (Kd.R_lt (by (with_reducible repeat (first | apply Kd.R_alloc | apply Kd.R_drewN | apply Kd.R_drew)); exact HO199.out))) (below_size (by repeat (first | (with_reducible first | exact HB.out | apply below_alloc | apply pw_below_drewN | apply below_drew1) | exact HB.out)))); have n4_ := Aside0.mk (below_step (by repeat (first | (with_reducible first | exact HB.out | apply below_alloc | apply pw_below_drewN | apply below_drew1) | exact HB.out)) hb); clear HO187; clear HO196; clear HO199; clear HB; have HO187 := n0_; have HO196 := n1_; have HO199 := n2_; have HO202 := n3_; have HB := n4_; clear n0_ n1_ n2_ n3_ n4_; (try clear hb); (try clear hb2); (try clear hk); (try clear hi); (try clear ho0); obtain ⟨Ao23, co23, eo23⟩ := Kd.R_slice HO202.out; subst eo23))
        (try simp only [Act.put, List.setIfInBounds_toArray, List.set_cons_zero, List.set_cons_succ])
        go_cut [7] (fun v7 wc => ∃ (kq : Nat) (x7_10 : Int), v7 = .int .i64 x7_10 ∧ Aside0 (laws_FnNumbers.j0 kq l0 t184 y197 x7_10 = some r) ∧ Aside0 (kq ≤ k) ∧ Aside0 (Kd.R (Kd.int .u8) 5 wc w.heap.size (fun _ => True) v198 y197) ∧ Aside0 (Below w.heap.size w wc))
        case first =>
          have H := HC11.out
          clear HC11
          by_cases c24 : (t200.length : Int) > 0
          · rw [if_pos c24] at H
            have c24b0 : decide (0 < (t200.length : Int)) = true := decide_eq_true c24
            (try (have c24b1 : decide (0 < t200.length) = true := decide_eq_true (by omega)))
            (try (have c24b2 : (0 < t200.length) = True := eq_true (by omega)))
            have c24b3 : decide (0 < t200.length) = true := decide_eq_true (by omega)
            clear c24
            (first | rw [c24b0] | (simp only [i64_w, i32_w]; rw [c24b0]) | rw [c24b1] | rw [c24b2] | rw [c24b3] | skip)
            replace H := Option.bind_eq_some_iff.mp H
            obtain ⟨⟨t203, t204, t205⟩, A250, H⟩ := H
            replace H : (if t205 = true then (if t203 = t183 then (if t204 = (wrap64 (1 + (t185.length : Int))) then (laws_FnNumbers.j0 k l0 t184 y197 t204) else (some false)) else (some false)) else (some false)) = some r := H
            have A25 := Aside0.mk A250
            clear A250
            by_cases c26 : t205 = true
            · subst c26
              have H1 : (if t203 = t183 then (if t204 = (wrap64 (1 + (t185.length : Int))) then (laws_FnNumbers.j0 k l0 t184 y197 t204) else (some false)) else (some false)) = some r := by rw [if_pos rfl] at H; exact H
              clear H
              have H := H1
              clear H1
              by_cases c27 : t203 = t183
              · rw [if_pos c27] at H
                have c27b0 : (t203 == t183) = true := beq_iff_eq.mpr c27
                have c27b1 : (t203 != t183) = false := bne_eq_false_iff_eq.mpr c27
                clear c27
                by_cases c28 : t204 = (wrap64 (1 + (t185.length : Int)))
                · rw [if_pos c28] at H
                  have c28b0 : (t204 == (wrap64 (1 + (t185.length : Int)))) = true := beq_iff_eq.mpr c28
                  have c28b1 : (t204 != (wrap64 (1 + (t185.length : Int)))) = false := bne_eq_false_iff_eq.mpr c28
                  clear c28
                  have H' := Aside0.mk H
                  clear H
                  obtain ⟨Ao29, co29, eo29⟩ := Kd.R_slice HO199.out
                  subst eo29
                  go_wp2_with (first | ((with_reducible refine gate_callee (f := 36) rfl ?_); refine goesL_ (some 36) rfl rfl Try.func36 (by kernel_rfl) rfl #[.slice Ao29 y197.length co29, .int .i64 1] rfl (by (try simp only [List.map_toArray, List.map_cons, List.map_nil]); first | done | rfl | (simp only [List.length_drop, List.length_take]; rfl)) ?_; (with_reducible refine (impl_GetNum.calls k _ _ y197 1 t203 t204 true _ ?side1 ?side2 A25.out).mono ?_); (case side1 => repeat (first | exact (Kd.R_reads' HO199.out).2.2 | (with_reducible refine Kd.C_alloc ?_ _) | (with_reducible refine Kd.C_drewN ?_ _) | (with_reducible refine Kd.C_drew ?_))); (case side2 => exact (Kd.R_reads' HO199.out).2.1); rintro e w30 ⟨rfl, hb⟩; refine ⟨_, rfl, ?_⟩; have n0_ := Aside0.mk (Kd.R_below (by (with_reducible repeat (first | apply Kd.R_alloc | apply Kd.R_drewN | apply Kd.R_drew)); exact HO187.out) hb); have n1_ := Aside0.mk (Kd.R_below (by (with_reducible repeat (first | apply Kd.R_alloc | apply Kd.R_drewN | apply Kd.R_drew)); exact HO196.out) hb); have n2_ := Aside0.mk (Kd.R_below (by (with_reducible repeat (first | apply Kd.R_alloc | apply Kd.R_drewN | apply Kd.R_drew)); exact HO199.out) hb); have n3_ := Aside0.mk (Kd.R_below (by (with_reducible repeat (first | apply Kd.R_alloc | apply Kd.R_drewN | apply Kd.R_drew)); exact HO202.out) hb); have n4_ := Aside0.mk (below_step (by repeat (first | (with_reducible first | exact HB.out | apply below_alloc | apply pw_below_drewN | apply below_drew1) | exact HB.out)) hb); clear HO187; clear HO196; clear HO199; clear HO202; clear HB; have HO187 := n0_; have HO196 := n1_; have HO199 := n2_; have HO202 := n3_; have HB := n4_; clear n0_ n1_ n2_ n3_ n4_; (try clear hb); (try clear hb2); (try clear hk); (try clear hi)))
                  (first | go_meet | (refine Met.intro ?_; go_step; (repeat apply Exists.intro); refine ⟨?rel, ?eqs⟩; case eqs => ((try rw [show (decide ((t200.length : Int) > 0)) = true from by assumption]); (try rw [show (decide ((t200.length : Int) > 0)) = false from by assumption]); (try rw [show (!true) = true from by assumption]); (try rw [show (!true) = false from by assumption]); (try rw [show (t203 != t183) = true from by assumption]); (try rw [show (t203 != t183) = false from by assumption]); (try rw [show (t204 != (wrap64 (1 + (t185.length : Int)))) = true from by assumption]); (try rw [show (t204 != (wrap64 (1 + (t185.length : Int)))) = false from by assumption]); (try rfl))))
                  case rel => exact ⟨_, (t204), (by first | rfl | (simp; done) | (simp [*]; done)), H', ⟨by first | omega | exact Nat.le_refl _⟩, ⟨by (with_reducible repeat (first | apply Kd.R_alloc | apply Kd.R_drewN | apply Kd.R_drew)); exact Kd.R_mono HO199.out (fun _ hk => trivial)⟩, ⟨by repeat (first | (with_reducible first | exact HB.out | apply below_alloc | apply pw_below_drewN | apply below_drew1) | exact HB.out)⟩⟩
                · rw [if_neg c28] at H
                  have c28b0 : (t204 == (wrap64 (1 + (t185.length : Int)))) = false := beq_eq_false_iff_ne.mpr c28
                  have c28b1 : (t204 != (wrap64 (1 + (t185.length : Int)))) = true := bne_iff_ne.mpr c28
                  obtain rfl := Option.some.inj H
                  exact absurd hrt.out (by decide)
              · rw [if_neg c27] at H
                have c27b0 : (t203 == t183) = false := beq_eq_false_iff_ne.mpr c27
                have c27b1 : (t203 != t183) = true := bne_iff_ne.mpr c27
                obtain rfl := Option.some.inj H
                exact absurd hrt.out (by decide)
            · replace c26 := Bool.eq_false_iff.mpr c26
              subst c26
              have H1 : (some false) = some r := by rw [if_neg (show ¬ (false = true) by decide)] at H; exact H
              clear H
              have H := H1
              clear H1
              obtain rfl := Option.some.inj H
              exact absurd hrt.out (by decide)
          · rw [if_neg c24] at H
            have c24b0 : decide (0 < (t200.length : Int)) = false := decide_eq_false c24
            (try (have c24b1 : decide (0 < t200.length) = false := decide_eq_false (by omega)))
            (try (have c24b2 : (0 < t200.length) = False := eq_false (by omega)))
            have c24b3 : decide (0 < t200.length) = false := decide_eq_false (by omega)
            clear c24
            (first | rw [c24b0] | (simp only [i64_w, i32_w]; rw [c24b0]) | rw [c24b1] | rw [c24b2] | rw [c24b3] | skip)
            by_cases c31 : (t185.length : Int) = 0
            · rw [if_pos c31] at H
              have c31b0 : ((t185.length : Int) == 0) = true := beq_iff_eq.mpr c31
              have c31b1 : ((t185.length : Int) != 0) = false := bne_eq_false_iff_eq.mpr c31
              clear c31
              have H' := Aside0.mk H
              clear H
              go_wp2
              (first | go_meet | (refine Met.intro ?_; go_step; (repeat apply Exists.intro); refine ⟨?rel, ?eqs⟩; case eqs => ((try rw [show (decide ((t200.length : Int) > 0)) = true from by assumption]); (try rw [show (decide ((t200.length : Int) > 0)) = false from by assumption]); (try rw [show ((t185.length : Int) != 0) = true from by assumption]); (try rw [show ((t185.length : Int) != 0) = false from by assumption]); (try rfl))))
              case rel => exact ⟨_, (1), (by first | rfl | (simp; done) | (simp [*]; done)), H', ⟨by first | omega | exact Nat.le_refl _⟩, ⟨by (with_reducible repeat (first | apply Kd.R_alloc | apply Kd.R_drewN | apply Kd.R_drew)); exact Kd.R_mono HO199.out (fun _ hk => trivial)⟩, ⟨by repeat (first | (with_reducible first | exact HB.out | apply below_alloc | apply pw_below_drewN | apply below_drew1) | exact HB.out)⟩⟩
            · rw [if_neg c31] at H
              have c31b0 : ((t185.length : Int) == 0) = false := beq_eq_false_iff_ne.mpr c31
              have c31b1 : ((t185.length : Int) != 0) = true := bne_iff_ne.mpr c31
              have c31b2 : ¬ (t185 = []) := fun h_ => c31 (by rw [h_]; rfl)
              obtain rfl := Option.some.inj H
              exact absurd hrt.out (by decide)
        case rest =>
          clear HC11
          try clear c2
          try clear p2
          try clear c3
          try clear p6
          try clear c7
          try clear c8
          try clear c9
          try clear c24
          try clear c24b0
          try clear c24b1
          try clear c24b2
          try clear c26
          try clear c27
          try clear c27b0
          try clear c27b1
          try clear c28
          try clear c28b0
          try clear c28b1
          try clear c30
          try clear c31
          try clear c31b0
          try clear c31b1
          try clear c31b2
          obtain ⟨kq, x7_10, rfl, HA, HJ10, HO_6, HB⟩ := hcut
          cases kq with
          | zero => exact absurd HA.out (by simp [laws_FnNumbers.j0])
          | succ kj10 =>
            have H := HA.out
            clear HA
            simp only [laws_FnNumbers.j0] at H
            replace H := Option.bind_eq_some_iff.mp H
            obtain ⟨⟨t206, t207, t208⟩, A320, H⟩ := H
            replace H : (if t208 = true then (if t206.toList = t184.toList then (laws_FnNumbers.j1 kj10 l0 y197 (t207 != (y197.length : Int))) else (laws_FnNumbers.j1 kj10 l0 y197 true)) else (laws_FnNumbers.j1 kj10 l0 y197 true)) = some r := H
            have A32 := Aside0.mk A320
            clear A320
            have HC33 := Aside0.mk H
            clear H
            obtain ⟨Ao34, co34, eo34⟩ := Kd.R_slice HO_6.out
            subst eo34
            go_upto_region 16 with (first | ((with_reducible refine gate_callee (f := 19) rfl ?_); refine goesL_ (some 61) rfl rfl Try.func19 (by kernel_rfl) rfl #[.slice Ao34 y197.length co34, .int .i64 x7_10] rfl (by (try simp only [List.map_toArray, List.map_cons, List.map_nil]); first | done | rfl | (simp only [List.length_drop, List.length_take]; rfl)) ?_; (with_reducible refine (impl_GetText.calls kj10 _ _ y197 x7_10 t206 t207 t208 _ ?side1 ?side2 A32.out).mono ?_); (case side1 => repeat (first | exact (Kd.R_reads' HO_6.out).2.2 | (with_reducible refine Kd.C_alloc ?_ _) | (with_reducible refine Kd.C_drewN ?_ _) | (with_reducible refine Kd.C_drew ?_))); (case side2 => exact (Kd.R_reads' HO_6.out).2.1); rintro e w35 ⟨rfl, hb⟩; refine ⟨_, rfl, ?_⟩; have n0_ := Aside0.mk (Kd.R_below (by (with_reducible repeat (first | apply Kd.R_alloc | apply Kd.R_drewN | apply Kd.R_drew)); exact HO_6.out) hb); have n1_ := Aside0.mk (below_step (by repeat (first | (with_reducible first | exact HB.out | apply below_alloc | apply pw_below_drewN | apply below_drew1) | exact HB.out)) hb); clear HO_6; clear HB; have HO_6 := n0_; have HB := n1_; clear n0_ n1_; (try clear hb); (try clear hb2); (try clear hk); (try clear hi)))
            (try simp only [Act.put, List.setIfInBounds_toArray, List.set_cons_zero, List.set_cons_succ])
            go_cut [77] (fun v77 wc => ∃ (kq : Nat) (x77_32 : Bool), v77 = .bool x77_32 ∧ Aside0 (laws_FnNumbers.j1 kq l0 y197 x77_32 = some r) ∧ Aside0 (kq ≤ kj10) ∧ Aside0 (Kd.R (Kd.int .u8) 5 wc w.heap.size (fun _ => True) (.slice Ao34 y197.length co34) y197) ∧ Aside0 (Below w.heap.size w wc))
            case first =>
              have H := HC33.out
              clear HC33
              by_cases c36 : t208 = true
              · subst c36
                have H1 : (if t206.toList = t184.toList then (laws_FnNumbers.j1 kj10 l0 y197 (t207 != (y197.length : Int))) else (laws_FnNumbers.j1 kj10 l0 y197 true)) = some r := by rw [if_pos rfl] at H; exact H
                clear H
                have H := H1
                clear H1
                by_cases c37 : t206.toList = t184.toList
                · rw [if_pos c37] at H
                  have c37b0 : (t206.toList == t184.toList) = true := beq_iff_eq.mpr c37
                  have c37b1 : (t206.toList != t184.toList) = false := bne_eq_false_iff_eq.mpr c37
                  clear c37
                  (first | rw [c37b0] | (simp only [i64_w, i32_w]; rw [c37b0]) | rw [c37b1] | rw [c37b2] | rw [c37b3] | skip)
                  have H' := Aside0.mk H
                  clear H
                  go_wp2
                  (first | go_meet | (refine Met.intro ?_; go_step; (repeat apply Exists.intro); refine ⟨?rel, ?eqs⟩; case eqs => ((try rw [show (decide ((t200.length : Int) > 0)) = true from by assumption]); (try rw [show (decide ((t200.length : Int) > 0)) = false from by assumption]); (try rw [show (!true) = true from by assumption]); (try rw [show (!true) = false from by assumption]); (try rw [show (t206.toList != t184.toList) = true from by assumption]); (try rw [show (t206.toList != t184.toList) = false from by assumption]); (try rw [show (t207 != (y197.length : Int)) = true from by assumption]); (try rw [show (t207 != (y197.length : Int)) = false from by assumption]); (try rfl))))
                  case rel => exact ⟨_, ((t207 != (y197.length : Int))), (by first | rfl | (simp; done) | (simp [*]; done)), H', ⟨by have := HJ10.out; first | omega | exact Nat.le_refl _⟩, ⟨by (with_reducible repeat (first | apply Kd.R_alloc | apply Kd.R_drewN | apply Kd.R_drew)); exact HO_6.out⟩, ⟨by repeat (first | (with_reducible first | exact HB.out | apply below_alloc | apply pw_below_drewN | apply below_drew1) | exact HB.out)⟩⟩
                · rw [if_neg c37] at H
                  have c37b0 : (t206.toList == t184.toList) = false := beq_eq_false_iff_ne.mpr c37
                  have c37b1 : (t206.toList != t184.toList) = true := bne_iff_ne.mpr c37
                  (first | rw [c37b0] | (simp only [i64_w, i32_w]; rw [c37b0]) | rw [c37b1] | rw [c37b2] | rw [c37b3] | skip)
                  have H' := Aside0.mk H
                  clear H
                  go_wp2
                  (first | go_meet | (refine Met.intro ?_; go_step; (repeat apply Exists.intro); refine ⟨?rel, ?eqs⟩; case eqs => ((try rw [show (decide ((t200.length : Int) > 0)) = true from by assumption]); (try rw [show (decide ((t200.length : Int) > 0)) = false from by assumption]); (try rw [show (!true) = true from by assumption]); (try rw [show (!true) = false from by assumption]); (try rw [show (t206.toList != t184.toList) = true from by assumption]); (try rw [show (t206.toList != t184.toList) = false from by assumption]); (try rfl))))
                  case rel => exact ⟨_, (true), (by first | rfl | (simp; done) | (simp [*]; done)), H', ⟨by have := HJ10.out; first | omega | exact Nat.le_refl _⟩, ⟨by (with_reducible repeat (first | apply Kd.R_alloc | apply Kd.R_drewN | apply Kd.R_drew)); exact HO_6.out⟩, ⟨by repeat (first | (with_reducible first | exact HB.out | apply below_alloc | apply pw_below_drewN | apply below_drew1) | exact HB.out)⟩⟩
              · replace c36 := Bool.eq_false_iff.mpr c36
                subst c36
                have H1 : (laws_FnNumbers.j1 kj10 l0 y197 true) = some r := by rw [if_neg (show ¬ (false = true) by decide)] at H; exact H
                clear H
                have H := H1
                clear H1
                have H' := Aside0.mk H
                clear H
                go_wp2
                (first | go_meet | (refine Met.intro ?_; go_step; (repeat apply Exists.intro); refine ⟨?rel, ?eqs⟩; case eqs => ((try rw [show (decide ((t200.length : Int) > 0)) = true from by assumption]); (try rw [show (decide ((t200.length : Int) > 0)) = false from by assumption]); (try rw [show (!false) = true from by assumption]); (try rw [show (!false) = false from by assumption]); (try rfl))))
                case rel => exact ⟨_, (true), (by first | rfl | (simp; done) | (simp [*]; done)), H', ⟨by have := HJ10.out; first | omega | exact Nat.le_refl _⟩, ⟨by (with_reducible repeat (first | apply Kd.R_alloc | apply Kd.R_drewN | apply Kd.R_drew)); exact HO_6.out⟩, ⟨by repeat (first | (with_reducible first | exact HB.out | apply below_alloc | apply pw_below_drewN | apply below_drew1) | exact HB.out)⟩⟩
            case rest =>
              clear HC33
              try clear c1
              try clear c2
              try clear p2
              try clear c3
              try clear p6
              try clear c7
              try clear c8
              try clear c9
              try clear c19
              try clear c24
              try clear c24b0
              try clear c24b1
              try clear c24b2
              try clear c26
              try clear c27
              try clear c27b0
              try clear c27b1
              try clear c28
              try clear c28b0
              try clear c28b1
              try clear c30
              try clear c31
              try clear c31b0
              try clear c31b1
              try clear c31b2
              try clear c32
              try clear c33
              try clear c34
              try clear c35
              try clear c36
              try clear c37
              try clear c37b0
              try clear c37b1
              try clear c37b2
              try clear p2
              try clear p6
              obtain ⟨kq, x77_32, rfl, HA, HJ32, HO_6, HB⟩ := hcut
              cases kq with
              | zero => exact absurd HA.out (by simp [laws_FnNumbers.j1])
              | succ kj32 =>
                have H := HA.out
                clear HA
                simp only [laws_FnNumbers.j1] at H
                by_cases c38 : x77_32 = true
                · subst c38
                  have H1 : (some false) = some r := by rw [if_pos rfl] at H; exact H
                  clear H
                  have H := H1
                  clear H1
                  obtain rfl := Option.some.inj H
                  exact absurd hrt.out (by decide)
                · replace c38 := Bool.eq_false_iff.mpr c38
                  subst c38
                  have H1 : ((some (([] : List Int) : List Int)).bind fun y209 => (if y209.length + y197.length < 140737488355328 then ((some (y209 ++ y197 : List Int)).bind fun y212 => ((laws_at0.f l0 3).bind fun t215 => (if (y197.length : Int) = 0 then (none) else (if 0 ≤ (Int.tmod t215 (y197.length : Int)) then (if (Int.tmod t215 (y197.length : Int)) < (y212.length : Int) then ((laws_at0.f l0 4).bind fun t217 => ((impl_Crc.f kj32 (y212.set ((Int.tmod t215 (y197.length : Int)) : Int).toNat (((rd y212 (Int.tmod t215 (y197.length : Int))) + ((wrap64 (1 + (Int.tmod t217 255))) % 256)) % 256))).bind fun t219 => ((impl_Crc.f kj32 y197).bind fun t220 => (if t219 = t220 then (some false) else ((impl_Crc.f kj32 y197).bind fun t221 => (some (decide (t221 ≥ 0)))))))) else (none)) else (none))))) else (none))) = some r := by rw [if_neg (show ¬ (false = true) by decide)] at H; exact H
                  clear H
                  have H := H1
                  clear H1
                  obtain ⟨y209, hy209⟩ : ∃ y_ : List Int, y_ = (([] : List Int)) := ⟨_, rfl⟩
                  replace H : (if y209.length + y197.length < 140737488355328 then ((some (y209 ++ y197 : List Int)).bind fun y212 => ((laws_at0.f l0 3).bind fun t215 => (if (y197.length : Int) = 0 then (none) else (if 0 ≤ (Int.tmod t215 (y197.length : Int)) then (if (Int.tmod t215 (y197.length : Int)) < (y212.length : Int) then ((laws_at0.f l0 4).bind fun t217 => ((impl_Crc.f kj32 (y212.set ((Int.tmod t215 (y197.length : Int)) : Int).toNat (((rd y212 (Int.tmod t215 (y197.length : Int))) + ((wrap64 (1 + (Int.tmod t217 255))) % 256)) % 256))).bind fun t219 => ((impl_Crc.f kj32 y197).bind fun t220 => (if t219 = t220 then (some false) else ((impl_Crc.f kj32 y197).bind fun t221 => (some (decide (t221 ≥ 0)))))))) else (none)) else (none))))) else (none)) = some r := by first | (rw [hy209]; with_reducible exact H) | (have H2_ := (Option.bind_some _ _).symm.trans H; rw [hy209]; with_reducible exact H2_) | (have H2_ := (Option.bind_some _ _).symm.trans H; with_reducible exact H2_) | with_reducible exact H | (rw [hy209]; exact H) | exact H
                  have Ny209 := Aside0.mk hy209
                  clear hy209
                  by_cases c39 : y209.length + y197.length < 140737488355328
                  · rw [if_pos c39] at H
                    have LMc39 := Aside0.mk c39
                    clear c39
                    obtain ⟨y212, hy212⟩ : ∃ y_ : List Int, y_ = (y209 ++ y197) := ⟨_, rfl⟩
                    replace H : ((laws_at0.f l0 3).bind fun t215 => (if (y197.length : Int) = 0 then (none) else (if 0 ≤ (Int.tmod t215 (y197.length : Int)) then (if (Int.tmod t215 (y197.length : Int)) < (y212.length : Int) then ((laws_at0.f l0 4).bind fun t217 => ((impl_Crc.f kj32 (y212.set ((Int.tmod t215 (y197.length : Int)) : Int).toNat (((rd y212 (Int.tmod t215 (y197.length : Int))) + ((wrap64 (1 + (Int.tmod t217 255))) % 256)) % 256))).bind fun t219 => ((impl_Crc.f kj32 y197).bind fun t220 => (if t219 = t220 then (some false) else ((impl_Crc.f kj32 y197).bind fun t221 => (some (decide (t221 ≥ 0)))))))) else (none)) else (none)))) = some r := by first | (rw [hy212]; with_reducible exact H) | (have H2_ := (Option.bind_some _ _).symm.trans H; rw [hy212]; with_reducible exact H2_) | (have H2_ := (Option.bind_some _ _).symm.trans H; with_reducible exact H2_) | with_reducible exact H | (rw [hy212]; exact H) | exact H
                    have Ny212 := Aside0.mk hy212
                    clear hy212
                    replace H := Option.bind_eq_some_iff.mp H
                    obtain ⟨t215, A400, H⟩ := H
                    replace H : (if (y197.length : Int) = 0 then (none) else (if 0 ≤ (Int.tmod t215 (y197.length : Int)) then (if (Int.tmod t215 (y197.length : Int)) < (y212.length : Int) then ((laws_at0.f l0 4).bind fun t217 => ((impl_Crc.f kj32 (y212.set ((Int.tmod t215 (y197.length : Int)) : Int).toNat (((rd y212 (Int.tmod t215 (y197.length : Int))) + ((wrap64 (1 + (Int.tmod t217 255))) % 256)) % 256))).bind fun t219 => ((impl_Crc.f kj32 y197).bind fun t220 => (if t219 = t220 then (some false) else ((impl_Crc.f kj32 y197).bind fun t221 => (some (decide (t221 ≥ 0)))))))) else (none)) else (none))) = some r := H
                    have A40 := Aside0.mk A400
                    clear A400
                    by_cases c41 : (y197.length : Int) = 0
                    · rw [if_pos c41] at H
                      exact absurd H (by simp)
                    · rw [if_neg c41] at H
                      have c41b0 : ((y197.length : Int) == 0) = false := beq_eq_false_iff_ne.mpr c41
                      have c41b1 : ((y197.length : Int) != 0) = true := bne_iff_ne.mpr c41
                      have c41b2 : ¬ (y197 = []) := fun h_ => c41 (by rw [h_]; rfl)
                      obtain ⟨ji42, hji42⟩ : ∃ j_ : Int, (Int.tmod t215 (y197.length : Int)) = j_ := ⟨_, rfl⟩
                      replace H : (if 0 ≤ (ji42) then (if (ji42) < (y212.length : Int) then ((laws_at0.f l0 4).bind fun t217 => ((impl_Crc.f kj32 (y212.set ((ji42) : Int).toNat (((rd y212 (ji42)) + ((wrap64 (1 + (Int.tmod t217 255))) % 256)) % 256))).bind fun t219 => ((impl_Crc.f kj32 y197).bind fun t220 => (if t219 = t220 then (some false) else ((impl_Crc.f kj32 y197).bind fun t221 => (some (decide (t221 ≥ 0)))))))) else (none)) else (none)) = some r := by first | (rw [hji42] at H; exact H) | (simp only [hji42] at H ⊢; exact H)
                      (try rw [hji42] at A40)
                      by_cases c43 : 0 ≤ (ji42)
                      · rw [if_pos c43] at H
                        have c43b0 : decide (0 ≤ (ji42)) = true := decide_eq_true c43
                        clear c43
                        by_cases c44 : (ji42) < (y212.length : Int)
                        · rw [if_pos c44] at H
                          have c44b0 : decide ((ji42) < (y212.length : Int)) = true := decide_eq_true c44
                          clear c44
                          replace H := Option.bind_eq_some_iff.mp H
                          obtain ⟨t217, A450, H⟩ := H
                          replace H : ((impl_Crc.f kj32 (y212.set ((ji42) : Int).toNat (((rd y212 (ji42)) + ((wrap64 (1 + (Int.tmod t217 255))) % 256)) % 256))).bind fun t219 => ((impl_Crc.f kj32 y197).bind fun t220 => (if t219 = t220 then (some false) else ((impl_Crc.f kj32 y197).bind fun t221 => (some (decide (t221 ≥ 0))))))) = some r := H
                          have A45 := Aside0.mk A450
                          clear A450
                          obtain ⟨y218, hy218⟩ : ∃ y_ : List Int, y_ = (y212.set ((ji42) : Int).toNat (((rd y212 (ji42)) + ((wrap64 (1 + (Int.tmod t217 255))) % 256)) % 256)) := ⟨_, rfl⟩
                          replace H : ((impl_Crc.f kj32 y218).bind fun t219 => ((impl_Crc.f kj32 y197).bind fun t220 => (if t219 = t220 then (some false) else ((impl_Crc.f kj32 y197).bind fun t221 => (some (decide (t221 ≥ 0))))))) = some r := by first | (rw [hy218]; with_reducible exact H) | (have H2_ := (Option.bind_some _ _).symm.trans H; rw [hy218]; with_reducible exact H2_) | (have H2_ := (Option.bind_some _ _).symm.trans H; with_reducible exact H2_) | with_reducible exact H | (rw [hy218]; exact H) | exact H
                          have Ny218 := Aside0.mk hy218
                          clear hy218
                          replace H := Option.bind_eq_some_iff.mp H
                          obtain ⟨t219, A470, H⟩ := H
                          replace H : ((impl_Crc.f kj32 y197).bind fun t220 => (if t219 = t220 then (some false) else ((impl_Crc.f kj32 y197).bind fun t221 => (some (decide (t221 ≥ 0)))))) = some r := H
                          have A47 := Aside0.mk A470
                          clear A470
                          replace H := Option.bind_eq_some_iff.mp H
                          obtain ⟨t220, A480, H⟩ := H
                          replace H : (if t219 = t220 then (some false) else ((impl_Crc.f kj32 y197).bind fun t221 => (some (decide (t221 ≥ 0))))) = some r := H
                          have A48 := Aside0.mk A480
                          clear A480
                          by_cases c49 : t219 = t220
                          · rw [if_pos c49] at H
                            have c49b0 : (t219 == t220) = true := beq_iff_eq.mpr c49
                            have c49b1 : (t219 != t220) = false := bne_eq_false_iff_eq.mpr c49
                            clear c49
                            obtain rfl := Option.some.inj H
                            exact absurd hrt.out (by decide)
                          · rw [if_neg c49] at H
                            have c49b0 : (t219 == t220) = false := beq_eq_false_iff_ne.mpr c49
                            have c49b1 : (t219 != t220) = true := bne_iff_ne.mpr c49
                            replace H := Option.bind_eq_some_iff.mp H
                            obtain ⟨t221, A500, H⟩ := H
                            replace H : (some (decide (t221 ≥ 0))) = some r := H
                            have A50 := Aside0.mk A500
                            clear A500
                            have e49y : t221 = t220 := by
                              have h49y := A50.out
                              rw [A48.out] at h49y
                              exact (Option.some.inj h49y).symm
                            have c49y : ¬t219 = t221 := by rw [e49y]; exact c49
                            have c49yb0 : (t219 == t221) = false := beq_eq_false_iff_ne.mpr c49y
                            have c49yb1 : (t219 != t221) = true := bne_iff_ne.mpr c49y
                            obtain rfl := Option.some.inj H
                            simp only [Option.some.injEq, Prod.mk.injEq] at H
                            obtain ⟨rfl⟩ := H
                            try go_wp2_with (first | ((with_reducible refine gate_dst (N := 78) rfl ?_); (try (refine gate_guard (by rfl) ?_; dsimp only)); refine Kd.R_lit (Kd.int .u8) _ 5 ?hg (N := 78) ?hd (xs := ([] : List Int)) (inner := []) (ok := fun _ => True) (okp := fun _ => True) ?hr ?hp (fun _ hk => hk) trivial (Below.refl _ _) (Nat.le_refl _) (by simp) ?_; (case hd => rfl); (case hg => rfl); (case hr => first | (go_simp; done) | (go_simp; rfl)); (case hp => exact (Reps.none _ _)); intro v210 w51 ho52 hb hg_ hnew_; clear hg_ hnew_; (first | rw [← Ny209.out] at ho52 | (simp only [Int.reduceToNat] at ho52; rw [← Ny209.out] at ho52)); have n0_ := Aside0.mk (Kd.R_elder' (by (with_reducible repeat (first | apply Kd.R_alloc | apply Kd.R_drewN | apply Kd.R_drew)); exact HO_6.out) (Kd.R_base ho52) hb); have n1_ := Aside0.mk (Kd.R_lower (Kd.R_new' ho52 (Kd.R_lt (by (with_reducible repeat (first | apply Kd.R_alloc | apply Kd.R_drewN | apply Kd.R_drew)); exact HO_6.out))) (below_size (by repeat (first | (with_reducible first | exact HB.out | apply below_alloc | apply pw_below_drewN | apply below_drew1) | exact HB.out)))); have n2_ := Aside0.mk (below_step (by repeat (first | (with_reducible first | exact HB.out | apply below_alloc | apply pw_below_drewN | apply below_drew1) | exact HB.out)) hb); clear HO_6; clear HB; have HO_6 := n0_; have HO211 := n1_; have HB := n2_; clear n0_ n1_ n2_; clear hb ho52) | ((with_reducible refine gate_builtin (b := .append) (xs := #[.tmp 78, .tmp 79]) rfl ?_); (try (refine gate_guard (by rfl) ?_; dsimp only)); at_builtin; refine Kd.R_append_rows (Kd.int .u8) (w0 := w) w.heap.size rfl (.tmp 78) (.tmp 79) 29 5 (.int .u8 0) 1 rfl Try.underlying29 info5 rfl (by decide) (by omega) v210 y209 y197 _ _ _ (fun k_ => some k_ ≠ (.slice Ao34 y197.length co34 : Value).ownBlock) (fun _ => False) rfl rfl ?aO ?aR (fun _ _ h => h) (fun _ h => h.elim) ?aF ?aB ?aS ?aL ?_; (case aR => repeat (first | exact (Kd.R_reads' HO_6.out).2.2 | (with_reducible refine Kd.C_alloc ?_ _) | (with_reducible refine Kd.C_drewN ?_ _) | (with_reducible refine Kd.C_drew ?_))); (case aB => exact (by repeat (first | (with_reducible first | exact HB.out | apply below_alloc | apply pw_below_drewN | apply below_drew1) | exact HB.out))); (case aF => exact (fun k_ hk => Kd.fresh' (Kd.R_lt (by (with_reducible repeat (first | apply Kd.R_alloc | apply Kd.R_drewN | apply Kd.R_drew)); exact HO_6.out)) k_ hk)); (case aO => exact (by (with_reducible repeat (first | apply Kd.R_alloc | apply Kd.R_drewN | apply Kd.R_drew)); exact Kd.R_mono HO211.out (fun _ hk => hk.2))); (case aS => exact (below_size (by repeat (first | (with_reducible first | exact HB.out | apply below_alloc | apply pw_below_drewN | apply below_drew1) | exact HB.out)))); (case aL => have := LMc39.out; omega); intro v213 w53 ho hb hg hat; rw [← Ny212.out] at ho; have n0_ := Aside0.mk (Kd.R_after (ok := (fun _ => True)) (by (with_reducible repeat (first | apply Kd.R_alloc | apply Kd.R_drewN | apply Kd.R_drew)); exact HO_6.out) hg hat); have n1_ := Aside0.mk (hb); have n2_ := Aside0.mk (ho); clear HO_6; clear HB; clear HO211; have HO_6 := n0_; have HB := n1_; have HO214 := n2_; clear n0_ n1_ n2_; clear ho hb hg hat) | ((with_reducible refine gate_callee (f := 37) rfl ?_); refine goesL_ (some 82) rfl rfl Try.func37 (by kernel_rfl) rfl #[.slice A0 l0.length c0, .int .i64 3] rfl (by (try simp only [List.map_toArray, List.map_cons, List.map_nil]); first | done | rfl | (simp only [List.length_drop, List.length_take]; rfl)) ?_; (with_reducible refine (laws_at0.calls _ _ l0 3 t215 _ ?side1 ?side2 A40.out).mono ?_); (case side1 => repeat (first | exact (Kd.C_below HR0.out HB.out) | (with_reducible refine Kd.C_alloc ?_ _) | (with_reducible refine Kd.C_drewN ?_ _) | (with_reducible refine Kd.C_drew ?_))); (case side2 => exact HC0.out); rintro e w' ⟨rfl, ⟨nd, rfl⟩⟩; refine ⟨_, rfl, ?_⟩; (try (rw [drewN_self w53]; generalize hq_ : World.drewN w53 _ = w53; have n0_ : Aside0 (Kd.R (Kd.int .u8) 5 w53 w.heap.size (fun k_ => some k_ ≠ (.slice Ao34 y197.length co34 : Value).ownBlock) v213 y212) := ⟨by rw [← hq_]; exact (by (with_reducible repeat (first | apply Kd.R_alloc | apply Kd.R_drewN | apply Kd.R_drew)); exact HO214.out)⟩; have n1_ : Aside0 (Kd.R (Kd.int .u8) 5 w53 w.heap.size (fun k_ => some k_ ≠ (v213 : Value).ownBlock) (.slice Ao34 y197.length co34) y197) := ⟨by rw [← hq_]; exact (by (with_reducible repeat (first | apply Kd.R_alloc | apply Kd.R_drewN | apply Kd.R_drew)); exact Kd.R_mono HO_6.out (fun _ hk => hk.2))⟩; have n2_ : Aside0 (Below w.heap.size w w53) := ⟨by rw [← hq_]; exact (by repeat (first | (with_reducible first | exact HB.out | apply below_alloc | apply pw_below_drewN | apply below_drew1) | exact HB.out))⟩; clear HO214 HO_6 HB hq_; have HO214 := n0_; have HO_6 := n1_; have HB := n2_; clear n0_ n1_ n2_))))
                            have n0_ := Aside0.mk (Kd.R_drew HO_6.out)
                            have n1_ := Aside0.mk (Kd.R_drew HO214.out)
                            have n2_ := Aside0.mk (below_drew1 HB.out)
                            clear HO_6
                            clear HO214
                            clear HB
                            have HO_6 := n0_
                            have HO214 := n1_
                            have HB := n2_
                            clear n0_ n1_ n2_
                            obtain ⟨Ao55, co55, eo55⟩ := Kd.R_slice HO214.out
                            (first | subst eo55 | (injection eo55 with f1_ f2_ f3_; have f4_ := f1_.symm; have f5_ := f3_.symm; clear f1_ f2_ f3_; subst f4_; subst f5_))
                            have p216 : 0 ≤ ((ji42) : Int) := of_decide_eq_true (by first | (with_reducible assumption) | assumption)
                            have q216 : (ji42) < (y212.length : Int) := of_decide_eq_true (by first | (with_reducible assumption) | assumption)
                            obtain ⟨ad216, e216, hx216_0⟩ := Kd.at_int (Kd.R_reads' HO214.out).2.2 (ji42) p216 q216
                            cases e216
                            replace p216 := eq_true p216
                            replace q216 := eq_true q216
                            refine start_ (n := 14) (S := fun w' => w'.cell? (ad216.add ((ji42)).toNat) = some (.int .u8 (rd y212 (ji42)))) (ds := [13]) #[false, false, false, false, false, false, false, false, false, false, false, false, false, false] (by kernel_rfl) rfl rfl (hx216_0) (fun hHeld => ?_); refine with_tabW laws_FnNumbers.tab20 laws_FnNumbers.bits20 (fun HT_ HW_ => ?_)
                            generalize w53.drew = w54 at HO_6 HO214 HB hx216_0 hHeld ⊢
                            refine pure_ (i := 0) (N := some 86) (v := ?_) (a' := ?_) #[true, false, false, false, false, false, false, false, false, false, false, false, false, false] rfl rfl (any_of HT_.out (by kernel_rfl)) (fun _ _ _ h => h) (Or.inl ⟨by rfl, ?_⟩) ?_ ?_
                            rotate_left
                            · intro w'
                              go_simp
                              with_reducible rfl
                            rotate_left
                            · simp only [Act.put, List.setIfInBounds_toArray, List.set_cons_zero, List.set_cons_succ, i64_w, i32_w]
                              rfl
                            refine pure_ (i := 1) (N := some 87) (v := ?_) (a' := ?_) #[true, true, false, false, false, false, false, false, false, false, false, false, false, false] rfl rfl (any_of HT_.out (by kernel_rfl)) (fun _ _ _ h => h) (Or.inl ⟨by rfl, ?_⟩) ?_ ?_
                            rotate_left
                            · intro w'
                              go_simp
                              with_reducible rfl
                            rotate_left
                            · simp only [Act.put, List.setIfInBounds_toArray, List.set_cons_zero, List.set_cons_succ, i64_w, i32_w]
                              rfl
                            refine pure_ (i := 2) (N := some 88) (v := ?_) (a' := ?_) #[true, true, true, false, false, false, false, false, false, false, false, false, false, false] rfl rfl (any_of HT_.out (by kernel_rfl)) (fun _ _ _ h => h) (Or.inl ⟨by rfl, ?_⟩) ?_ ?_
                            rotate_left
                            · intro w'
                              go_simp
                              with_reducible rfl
                            rotate_left
                            · simp only [Act.put, List.setIfInBounds_toArray, List.set_cons_zero, List.set_cons_succ, i64_w, i32_w]
                              rfl
                            refine pure_ (i := 3) (N := some 89) (v := ?_) (a' := ?_) #[true, true, true, true, false, false, false, false, false, false, false, false, false, false] rfl rfl (any_of HT_.out (by kernel_rfl)) (fun _ _ _ h => h) (Or.inl ⟨by rfl, ?_⟩) ?_ ?_
                            rotate_left
                            · intro w'
                              go_simp
                              with_reducible rfl
                            rotate_left
                            · simp only [Act.put, List.setIfInBounds_toArray, List.set_cons_zero, List.set_cons_succ, i64_w, i32_w]
                              rfl
                            refine pure_ (i := 4) (N := some 90) (v := ?_) (a' := ?_) #[true, true, true, true, true, false, false, false, false, false, false, false, false, false] rfl rfl (any_of HT_.out (by kernel_rfl)) (fun _ _ _ h => h) (Or.inl ⟨by rfl, ?_⟩) ?_ ?_
                            rotate_left
                            · intro w'
                              go_simp
                              with_reducible rfl
                            rotate_left
                            · simp only [Act.put, List.setIfInBounds_toArray, List.set_cons_zero, List.set_cons_succ, i64_w, i32_w]
                              rfl
                            refine pure_ (i := 6) (N := some 92) (v := ?_) (a' := ?_) #[true, true, true, true, true, false, true, false, false, false, false, false, false, false] rfl rfl (any_of HT_.out (by kernel_rfl)) (fun _ _ _ h => h) (Or.inl ⟨by rfl, ?_⟩) ?_ ?_
                            rotate_left
                            · intro w'
                              go_simp
                              with_reducible rfl
                            rotate_left
                            · simp only [Act.put, List.setIfInBounds_toArray, List.set_cons_zero, List.set_cons_succ, i64_w, i32_w]
                              rfl
                            refine take_ (i := 5) (N := some 91) (v := ?_) (a' := ?_) #[true, true, true, true, true, true, true, false, false, false, false, false, false, false] rfl rfl (take_ofW HT_.out HW_.out (by kernel_rfl)) (fun _ _ _ h => h) (Or.inl ⟨by rfl, ?_⟩) hHeld ?_ ?_
                            rotate_left
                            · intro w' s0
                              go_simp
                              with_reducible rfl
                            rotate_left
                            · simp only [Act.put, List.setIfInBounds_toArray, List.set_cons_zero, List.set_cons_succ, i64_w, i32_w]
                              rfl
                            refine one_ (i := 7) (N := some 93) #[true, true, true, true, true, true, true, true, false, false, false, false, false, false] rfl rfl (one_of HT_.out (by kernel_rfl)) (by decide) (fun K hK => ?_)
                            refine goes_ Try.func37 (by kernel_rfl) rfl #[.slice A0 l0.length c0, .int .i64 4] (by rfl) rfl rfl (by (try simp only [List.map_toArray, List.map_cons, List.map_nil]); first | done | rfl | (simp only [List.length_drop, List.length_take]; rfl)) ?_
                            with_reducible refine (laws_at0.calls _ _ l0 4 t217 _ ?side1 ?side2 A45.out).mono ?_
                            (case side1 => repeat (first | exact (Kd.C_below HR0.out HB.out) | (with_reducible refine Kd.C_alloc ?_ _) | (with_reducible refine Kd.C_drewN ?_ _) | (with_reducible refine Kd.C_drew ?_)))
                            (case side2 => exact HC0.out)
                            rintro e w' ⟨rfl, ⟨nd, rfl⟩⟩
                            refine ⟨_, rfl, ?_⟩
                            have p46 : 0 ≤ ((ji42) : Int) := of_decide_eq_true (by first | (with_reducible assumption) | assumption)
                            have q46 : ((ji42) : Int) < ((y212.length : Int) : Int) := of_decide_eq_true (by first | (with_reducible assumption) | assumption)
                            obtain ⟨go46, co46, eo46, gb46, gl46, cl46, HG46⟩ := Kd.R_form HO214.out (by omega)
                            (first | cases eo46 | (injection eo46 with ea_ en_ ec_; (first | subst ea_ | (injection ea_ with ea_; subst ea_)); subst ec_; clear en_))
                            have GB46 := Aside0.mk gb46
                            have GG46 := Aside0.mk HG46
                            clear gb46 gl46 HG46
                            (first | simp only [add_plain] at hx216_0 | skip)
                            obtain ⟨hx46_0, hf46_0⟩ := Kd.R_celln 0 HO214.out ((ji42) : Int) p46 q46
                            replace p46 := eq_true p46
                            replace q46 := eq_true q46
                            have HP56 := Kd.R_putn HO214.out ((ji42) : Int) (((rd y212 (ji42)) + ((wrap64 (1 + (Int.tmod t217 255))) % 256)) % 256)
                            rw [← Ny218.out] at HP56
                            have HQ56 := Aside0.mk HP56
                            clear HP56
                            refine hK.out _ _ (hHeld) (fun hHeld => ?_)
                            clear hK K
                            refine norm_ (a' := ?_) ?_ ?_
                            rotate_left
                            · show Act.put _ (some 93) _ = _
                              simp only [Act.put, List.setIfInBounds_toArray, List.set_cons_zero, List.set_cons_succ, i64_w, i32_w]
                              rfl
                            refine pure_ (i := 8) (N := some 94) (v := ?_) (a' := ?_) #[true, true, true, true, true, true, true, true, true, false, false, false, false, false] rfl rfl (any_of HT_.out (by kernel_rfl)) (fun _ _ _ h => h) (Or.inl ⟨by rfl, ?_⟩) ?_ ?_
                            rotate_left
                            · intro w'
                              go_simp
                              with_reducible rfl
                            rotate_left
                            · simp only [Act.put, List.setIfInBounds_toArray, List.set_cons_zero, List.set_cons_succ, i64_w, i32_w]
                              rfl
                            refine pure_ (i := 9) (N := some 95) (v := ?_) (a' := ?_) #[true, true, true, true, true, true, true, true, true, true, false, false, false, false] rfl rfl (any_of HT_.out (by kernel_rfl)) (fun _ _ _ h => h) (Or.inl ⟨by rfl, ?_⟩) ?_ ?_
                            rotate_left
                            · intro w'
                              go_simp
                              with_reducible rfl
                            rotate_left
                            · simp only [Act.put, List.setIfInBounds_toArray, List.set_cons_zero, List.set_cons_succ, i64_w, i32_w]
                              rfl
                            refine pure_ (i := 10) (N := some 96) (v := ?_) (a' := ?_) #[true, true, true, true, true, true, true, true, true, true, true, false, false, false] rfl rfl (any_of HT_.out (by kernel_rfl)) (fun _ _ _ h => h) (Or.inl ⟨by rfl, ?_⟩) ?_ ?_
                            rotate_left
                            · intro w'
                              go_simp
                              with_reducible rfl
                            rotate_left
                            · simp only [Act.put, List.setIfInBounds_toArray, List.set_cons_zero, List.set_cons_succ, i64_w, i32_w]
                              rfl
                            refine pure_ (i := 11) (N := some 97) (v := ?_) (a' := ?_) #[true, true, true, true, true, true, true, true, true, true, true, true, false, false] rfl rfl (any_of HT_.out (by kernel_rfl)) (fun _ _ _ h => h) (Or.inl ⟨by rfl, ?_⟩) ?_ ?_
                            rotate_left
                            · intro w'
                              go_simp
                              with_reducible rfl
                            rotate_left
                            · simp only [Act.put, List.setIfInBounds_toArray, List.set_cons_zero, List.set_cons_succ, i64_w, i32_w]
                              rfl
                            refine pure_ (i := 12) (N := some 98) (v := ?_) (a' := ?_) #[true, true, true, true, true, true, true, true, true, true, true, true, true, false] rfl rfl (any_of HT_.out (by kernel_rfl)) (fun _ _ _ h => h) (Or.inl ⟨by rfl, ?_⟩) ?_ ?_
                            rotate_left
                            · intro w'
                              go_simp
                              with_reducible rfl
                            rotate_left
                            · simp only [Act.put, List.setIfInBounds_toArray, List.set_cons_zero, List.set_cons_succ, i64_w, i32_w]
                              rfl
                            refine last_ (i := 13) (N := none) #[true, true, true, true, true, true, true, true, true, true, true, true, true, true] rfl rfl (one_of HT_.out (by kernel_rfl)) (by decide) (fun K hK => ?_)
                            refine skip_ (w1 := ?_) (by rfl) rfl ?_ ?_
                            rotate_left
                            · go_simp
                              rfl
                            refine hK.out _ _ ?_
                            clear hK K
                            refine done_ (done_of HT_.out (by kernel_rfl)) ?_
                            try go_wp2_with (first | ((with_reducible refine gate_callee (f := 38) rfl ?_); refine goesL_ (some 100) rfl rfl Try.func38 (by kernel_rfl) rfl #[.slice (some ⟨go46, 0, none⟩) y218.length co55] rfl (by (try simp only [List.map_toArray, List.map_cons, List.map_nil]); first | done | (rw [show y218.length = y212.length from (Kd.R_reads' HQ56.out).1.symm] <;> rfl) | rfl | (simp only [List.length_drop, List.length_take]; rfl)) ?_; (with_reducible refine (impl_Crc.calls kj32 _ _ y218 t219 _ ?side1 ?side2 A47.out).mono ?_); (case side1 => refine (Kd.R_reads' (e := 5) (base := w.heap.size) (ok := fun k_ => some k_ ≠ (.slice Ao34 y197.length co34 : Value).ownBlock) (n := y212.length) (c := co55) ?_).2.2; exact (by (with_reducible repeat (first | apply Kd.R_alloc | apply Kd.R_drewN | apply Kd.R_drew)); exact HQ56.out)); (case side2 => rw [show y218.length = y212.length from (Kd.R_reads' HQ56.out).1.symm]; exact (Kd.R_reads' HO214.out).2.1); rintro e w' ⟨rfl, ⟨nd, rfl⟩⟩; refine ⟨_, rfl, ?_⟩) | ((with_reducible refine gate_callee (f := 38) rfl ?_); refine goesL_ (some 102) rfl rfl Try.func38 (by kernel_rfl) rfl #[.slice Ao34 y197.length co34] rfl (by (try simp only [List.map_toArray, List.map_cons, List.map_nil]); first | done | rfl | (simp only [List.length_drop, List.length_take]; rfl)) ?_; (with_reducible refine (impl_Crc.calls kj32 _ _ y197 t220 _ ?side1 ?side2 A48.out).mono ?_); (case side1 => refine (Kd.R_reads' (e := 5) (base := w.heap.size) (ok := fun k_ => (True ∧ some k_ ≠ (.slice (some ⟨go46, 0, none⟩) y212.length co55 : Value).ownBlock)) (n := y197.length) (c := co34) ?_).2.2; exact (by (with_reducible repeat (first | apply Kd.R_alloc | apply Kd.R_drewN | apply Kd.R_drew)); exact (Kd.R_mono (Kd.R_far (p := ⟨go46, ((ji42) : Int).toNat, none⟩) (Kd.R_mono HO_6.out (fun k_ hk => (⟨⟨trivial, hk⟩, fun e_ => hk (by rw [e_]; rfl)⟩ : (True ∧ _) ∧ k_ ≠ go46))) (fun _ hk => hk.2) (.int .u8 ((rd y212 ji42 + wrap64 (1 + Int.tmod t217 255)) % 256))) (fun _ h_ => h_.1)))); (case side2 => exact (Kd.R_reads' HO_6.out).2.1); rintro e w' ⟨rfl, ⟨nd, rfl⟩⟩; refine ⟨_, rfl, ?_⟩) | (go_at_call 38; (with_reducible refine (impl_Crc.calls kj32 _ _ y197 t221 _ ?side1 ?side2 A50.out).mono ?_); (case side1 => refine (Kd.R_reads' (e := 5) (base := w.heap.size) (ok := fun k_ => (True ∧ some k_ ≠ (.slice (some ⟨go46, 0, none⟩) y212.length co55 : Value).ownBlock)) (n := y197.length) (c := co34) ?_).2.2; exact (by (with_reducible repeat (first | apply Kd.R_alloc | apply Kd.R_drewN | apply Kd.R_drew)); exact (Kd.R_mono (Kd.R_far (p := ⟨go46, ((ji42) : Int).toNat, none⟩) (Kd.R_mono HO_6.out (fun k_ hk => (⟨⟨trivial, hk⟩, fun e_ => hk (by rw [e_]; rfl)⟩ : (True ∧ _) ∧ k_ ≠ go46))) (fun _ hk => hk.2) (.int .u8 ((rd y212 ji42 + wrap64 (1 + Int.tmod t217 255)) % 256))) (fun _ h_ => h_.1)))); (case side2 => exact (Kd.R_reads' HO_6.out).2.1); rintro e w' ⟨rfl, ⟨nd, rfl⟩⟩))
                            go_ret
                            exact ⟨by first | rfl | (simp [errW_none, errW_some] <;> rfl) | (simp only [← hji42]; first | rfl | (simp [errW_none, errW_some] <;> rfl)) | (simp [*, errW_none, errW_some] <;> rfl), by repeat (first | (with_reducible first | exact HB.out | apply below_alloc | apply pw_below_drewN | apply below_drew1 | refine below_set ?_ GB46.out) | exact HB.out)⟩
                        · rw [if_neg c44] at H
                          exact absurd H (by simp)
                      · rw [if_neg c43] at H
                        exact absurd H (by simp)
                  · rw [if_neg c39] at H
                    exact absurd H (by simp)
      · rw [if_neg c9] at H
        exact absurd H (by simp)
    · rw [if_neg c7] at H
      exact absurd H (by simp)

/-- THE ONE PURE STATEMENT of laws_FnNumbers: yours. -/
def laws_FnNumbers.Pure : Prop := ∀ (l0 : List Int), l0.length ≤ maxLen → l0.length * 1 ≤ 140737488351232 → (∀ x ∈ l0, (Lit.int .u8 x).wf = true) → ∃ k, laws_FnNumbers.f k l0 = some true
theorem laws_FnNumbers.walk (P : laws_FnNumbers.Pure) (a0 : Option Addr) (len0 cap0 : Nat) (z0 : List Int) (w : World) (w0 : (a0 = none ∧ len0 = 0 ∧ cap0 = 0 ∧ z0 = []) ∨ ∃ x, a0 = some x ∧ len0 ≤ cap0 ∧ cap0 ≤ maxLen ∧ z0.length = cap0 ∧ (∀ i, i < z0.length → w.cell? (x.add i) = some (.int .u8 (z0.getD i 0))) ∧ ∀ n ∈ z0, (Lit.int .u8 n).wf = true) (y0 : len0 * 1 ≤ 140737488351232) :
    Calls Try.prog 8 #[.slice a0 len0 cap0] w fun e w' => e = .returned (.bool true) ∧ Below w.heap.size w w' := by
  obtain ⟨l0, rfl, hr0, hm0, hw0, hc0⟩ := ReadsInt.ofRowC w0
  obtain ⟨k, h⟩ := P l0 hm0 y0 hw0
  refine (laws_FnNumbers.calls k _ _ l0 true w (Kd.C_of_reads (d := (0 : Int)) (h1 := fun _ => rfl) hr0) hc0 ⟨rfl⟩ h).mono ?_
  rintro e w' ⟨rfl, hd⟩
  exact ⟨rfl, hd⟩

end Go.Proofs.Ytpmgajcjanihhaa.PFnNumbers
