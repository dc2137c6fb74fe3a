-- Written by this session's changed copy of the kit's printer (wip/patch_print.py): not the kit's own print.
import Derived.Test.YtkpicmjncfhnmaaDoorPFnAddedx0
import Derived.Test.YtkpicmjncfhnmaaDoorPFnAddedx1
import Derived.Test.YtkpicmjncfhnmaaDoorPFnAddedx2
namespace Go.Proofs.YtkpicmjncfhnmaaDoor.PFnAdded
open Go.RowKit Go.Proofs.YtkpicmjncfhnmaaDoorW.PrintWords Go.Proofs.YtkpicmjncfhnmaaDoorW.PrintLast Go.Proofs.YtkpicmjncfhnmaaDoorW.PrintMore
attribute [local go_sem] max2_int min2_int max_two min_two max_three min_three max_four min_four   -- for this text's walks alone
set_option linter.unusedVariables false
set_option linter.unusedSimpArgs false

/-! ### laws_FnAdded: function 4 -/
mutual
def laws_FnAdded.j0 : Nat → Int → Int → Bool → Option (Bool)
  | 0, _, _, _ => none
  | k + 1, x3, x4, x58 => if x58 = true then (some false) else ((impl_BucketOf.f k x3).bind fun t181 => ((spec_BucketOf.f k x3).bind fun t182 => (if t181 = t182 then (if t181 < 0 then (laws_FnAdded.j1 k x3 t181 true) else (if t181 ≥ 8 then (laws_FnAdded.j1 k x3 t181 true) else (if x3 ≤ x4 then ((impl_BucketOf.f k x4).bind fun t183 => (laws_FnAdded.j1 k x3 t181 (decide (t181 > t183)))) else (laws_FnAdded.j1 k x3 t181 false)))) else (laws_FnAdded.j1 k x3 t181 true))))
def laws_FnAdded.j1 : Nat → Int → Int → Bool → Option (Bool)
  | 0, _, _, _ => none
  | k + 1, x3, x8, x83 => if x83 = true then (some false) else ((impl_Low.f x8).bind fun t184 => (if x3 ≥ 0 then (if x3 ≤ 1000000 then (if t184 > x3 then (laws_FnAdded.j2 k x3 true) else ((impl_BucketOf.f k t184).bind fun t185 => (if t185 = x8 then (if (wrap64 (x8 + 1)) < 8 then ((impl_Low.f (wrap64 (x8 + 1))).bind fun t186 => (laws_FnAdded.j2 k x3 (decide (t186 ≤ x3)))) else (laws_FnAdded.j2 k x3 false)) else (laws_FnAdded.j2 k x3 true)))) else (laws_FnAdded.j2 k x3 false)) else (laws_FnAdded.j2 k x3 false)))
def laws_FnAdded.j2 : Nat → Int → Bool → Option (Bool)
  | 0, _, _ => none
  | k + 1, x3, x114 => if x114 = true then (some false) else ((impl_RankOf.f x3).bind fun t187 => (if t187 ≥ 1 then ((impl_RankOf.f x3).bind fun t188 => (if t188 ≤ 17 then ((impl_Mix.f x3).bind fun t189 => (if t189 ≥ 0 then ((impl_Mix.f x3).bind fun t190 => (some (decide (t190 < 65536)))) else (some false))) else (some false))) else (some false)))
end
def laws_FnAdded.f (k : Nat) (l0 : List Int) : Option (Bool) := (laws_big.f l0).bind fun t166 => (if t166 = true then (some true) else ((spec_DrawAdd.f k l0).bind fun bt167 => ((laws_tail.f l0).bind fun t169 => ((spec_DrawAdd.f k t169).bind fun bt172 => ((impl_Add.f bt167.1 bt167.2).bind fun t174 => ((spec_Add.f bt167.1 bt167.2).bind fun t175 => (if t174 = t175 then ((impl_Add.f bt167.2 bt167.1).bind fun t176 => (if t174 = t176 then ((impl_Add.f bt167.1 bt167.2).bind fun t177 => ((impl_Add.f t177 bt172.1).bind fun t178 => ((impl_Add.f bt167.2 bt172.1).bind fun t179 => ((impl_Add.f bt167.1 t179).bind fun t180 => (if t178 = t180 then (if t174 < 0 then (laws_FnAdded.j0 k bt167.1 bt167.2 true) else (laws_FnAdded.j0 k bt167.1 bt167.2 (decide (t174 > 1000000000)))) else (laws_FnAdded.j0 k bt167.1 bt167.2 true)))))) else (laws_FnAdded.j0 k bt167.1 bt167.2 true))) else (laws_FnAdded.j0 k bt167.1 bt167.2 true))))))))
theorem laws_FnAdded.mono_l : ∀ k, (∀ y0 y1 y2, LeO (laws_FnAdded.j0 k y0 y1 y2) (laws_FnAdded.j0 (k + 1) y0 y1 y2)) ∧ (∀ y0 y1 y2, LeO (laws_FnAdded.j1 k y0 y1 y2) (laws_FnAdded.j1 (k + 1) y0 y1 y2)) ∧ (∀ y0 y1, LeO (laws_FnAdded.j2 k y0 y1) (laws_FnAdded.j2 (k + 1) y0 y1))
  | 0 => ⟨fun _ _ _ r h => by simp [laws_FnAdded.j0] at h, fun _ _ _ r h => by simp [laws_FnAdded.j1] at h, fun _ _ r h => by simp [laws_FnAdded.j2] at h⟩
  | k + 1 => by
    obtain ⟨ih0, ih1, ih2⟩ := laws_FnAdded.mono_l k
    refine ⟨?_, ?_, ?_⟩
    · intro y0 y1 y2
      unfold laws_FnAdded.j0
      repeat' first
      | (with_reducible exact ih0 _ _ _)
      | (with_reducible exact ih1 _ _ _)
      | (with_reducible exact ih2 _ _)
      | (with_reducible exact impl_BucketOf.mono _ _)
      | (with_reducible exact spec_BucketOf.mono _ _)
      | (with_reducible exact spec_DrawAdd.mono _ _)
      | (with_reducible exact LeO.refl _)
      | (with_reducible exact LeO.none _)
      | (with_reducible refine LeO.ite ?_ ?_)
      | (with_reducible refine LeO.bind ?_ (fun _ => ?_))
      | exact ih0 _ _ _
      | exact ih1 _ _ _
      | exact ih2 _ _
      | exact impl_BucketOf.mono _ _
      | exact spec_BucketOf.mono _ _
      | exact spec_DrawAdd.mono _ _
      | exact LeO.none _
      | refine LeO.ite ?_ ?_
      | refine LeO.bind ?_ (fun _ => ?_)
    · intro y0 y1 y2
      unfold laws_FnAdded.j1
      repeat' first
      | (with_reducible exact ih0 _ _ _)
      | (with_reducible exact ih1 _ _ _)
      | (with_reducible exact ih2 _ _)
      | (with_reducible exact impl_BucketOf.mono _ _)
      | (with_reducible exact spec_BucketOf.mono _ _)
      | (with_reducible exact spec_DrawAdd.mono _ _)
      | (with_reducible exact LeO.refl _)
      | (with_reducible exact LeO.none _)
      | (with_reducible refine LeO.ite ?_ ?_)
      | (with_reducible refine LeO.bind ?_ (fun _ => ?_))
      | exact ih0 _ _ _
      | exact ih1 _ _ _
      | exact ih2 _ _
      | exact impl_BucketOf.mono _ _
      | exact spec_BucketOf.mono _ _
      | exact spec_DrawAdd.mono _ _
      | exact LeO.none _
      | refine LeO.ite ?_ ?_
      | refine LeO.bind ?_ (fun _ => ?_)
    · intro y0 y1
      unfold laws_FnAdded.j2
      repeat' first
      | (with_reducible exact ih0 _ _ _)
      | (with_reducible exact ih1 _ _ _)
      | (with_reducible exact ih2 _ _)
      | (with_reducible exact impl_BucketOf.mono _ _)
      | (with_reducible exact spec_BucketOf.mono _ _)
      | (with_reducible exact spec_DrawAdd.mono _ _)
      | (with_reducible exact LeO.refl _)
      | (with_reducible exact LeO.none _)
      | (with_reducible refine LeO.ite ?_ ?_)
      | (with_reducible refine LeO.bind ?_ (fun _ => ?_))
      | exact ih0 _ _ _
      | exact ih1 _ _ _
      | exact ih2 _ _
      | exact impl_BucketOf.mono _ _
      | exact spec_BucketOf.mono _ _
      | exact spec_DrawAdd.mono _ _
      | exact LeO.none _
      | refine LeO.ite ?_ ?_
      | refine LeO.bind ?_ (fun _ => ?_)
theorem laws_FnAdded.mono : ∀ a0 k, LeO (laws_FnAdded.f k a0) (laws_FnAdded.f (k + 1) a0) := by
  intro a0 k
  obtain ⟨ih0, ih1, ih2⟩ := laws_FnAdded.mono_l k
  unfold laws_FnAdded.f
  repeat' first
      | (with_reducible exact ih0 _ _ _)
      | (with_reducible exact ih1 _ _ _)
      | (with_reducible exact ih2 _ _)
      | (with_reducible exact impl_BucketOf.mono _ _)
      | (with_reducible exact spec_BucketOf.mono _ _)
      | (with_reducible exact spec_DrawAdd.mono _ _)
      | (with_reducible exact LeO.refl _)
      | (with_reducible exact LeO.none _)
      | (with_reducible refine LeO.ite ?_ ?_)
      | (with_reducible refine LeO.bind ?_ (fun _ => ?_))
      | exact ih0 _ _ _
      | exact ih1 _ _ _
      | exact ih2 _ _
      | exact impl_BucketOf.mono _ _
      | exact spec_BucketOf.mono _ _
      | exact spec_DrawAdd.mono _ _
      | exact LeO.none _
      | refine LeO.ite ?_ ?_
      | refine LeO.bind ?_ (fun _ => ?_)
set_option maxHeartbeats 8000000 in
set_option maxRecDepth 100000 in
theorem laws_FnAdded.calls (k : Nat) (A0 : Option Addr) (c0 : Nat) (l0 : List Int) (r : Bool) (w : World) (hT : Tabs w) (hr0 : Kd.C (Kd.int .u8) w A0 l0.length l0) (hc0 : l0.length ≤ c0) (hrt : Aside0 (r = true)) (h : laws_FnAdded.f k l0 = some r) :
    Calls Tryd.prog 4 #[.slice A0 l0.length c0] w fun e w' => e = .returned (.bool r) ∧ Below w.heap.size w w' := by
  have HR0 := Aside0.mk hr0
  have HC0 := Aside0.mk hc0
  clear hr0 hc0
  have HB := Aside0.mk (Below.refl w.heap.size w)
  have HTAB := Aside0.mk hT
  clear hT
  have H : ((laws_big.f l0).bind fun t166 => (if t166 = true then (some true) else ((spec_DrawAdd.f k l0).bind fun bt167 => ((laws_tail.f l0).bind fun t169 => ((spec_DrawAdd.f k t169).bind fun bt172 => ((impl_Add.f bt167.1 bt167.2).bind fun t174 => ((spec_Add.f bt167.1 bt167.2).bind fun t175 => (if t174 = t175 then ((impl_Add.f bt167.2 bt167.1).bind fun t176 => (if t174 = t176 then ((impl_Add.f bt167.1 bt167.2).bind fun t177 => ((impl_Add.f t177 bt172.1).bind fun t178 => ((impl_Add.f bt167.2 bt172.1).bind fun t179 => ((impl_Add.f bt167.1 t179).bind fun t180 => (if t178 = t180 then (if t174 < 0 then (laws_FnAdded.j0 k bt167.1 bt167.2 true) else (laws_FnAdded.j0 k bt167.1 bt167.2 (decide (t174 > 1000000000)))) else (laws_FnAdded.j0 k bt167.1 bt167.2 true)))))) else (laws_FnAdded.j0 k bt167.1 bt167.2 true))) else (laws_FnAdded.j0 k bt167.1 bt167.2 true))))))))) = some r := h
  clear h
  replace H := Option.bind_eq_some_iff.mp H
  obtain ⟨t166, A20, H⟩ := H
  replace H : (if t166 = true then (some true) else ((spec_DrawAdd.f k l0).bind fun bt167 => ((laws_tail.f l0).bind fun t169 => ((spec_DrawAdd.f k t169).bind fun bt172 => ((impl_Add.f bt167.1 bt167.2).bind fun t174 => ((spec_Add.f bt167.1 bt167.2).bind fun t175 => (if t174 = t175 then ((impl_Add.f bt167.2 bt167.1).bind fun t176 => (if t174 = t176 then ((impl_Add.f bt167.1 bt167.2).bind fun t177 => ((impl_Add.f t177 bt172.1).bind fun t178 => ((impl_Add.f bt167.2 bt172.1).bind fun t179 => ((impl_Add.f bt167.1 t179).bind fun t180 => (if t178 = t180 then (if t174 < 0 then (laws_FnAdded.j0 k bt167.1 bt167.2 true) else (laws_FnAdded.j0 k bt167.1 bt167.2 (decide (t174 > 1000000000)))) else (laws_FnAdded.j0 k bt167.1 bt167.2 true)))))) else (laws_FnAdded.j0 k bt167.1 bt167.2 true))) else (laws_FnAdded.j0 k bt167.1 bt167.2 true)))))))) = some r := H
  have A2 := Aside0.mk A20
  clear A20
  by_cases c3 : t166 = true
  · subst c3
    have H1 : (some true) = some r := by rw [if_pos rfl] at H; exact H
    clear H
    have H := H1
    clear H1
    obtain rfl := Option.some.inj H
    simp only [Option.some.injEq, Prod.mk.injEq] at H
    obtain ⟨rfl⟩ := H
    go_enter Tryd.func4, Tryd.ntmps4
    go_wp2_with (first | ((with_reducible refine gate_callee (f := 17) rfl ?_); refine goesL_ (some 11) rfl rfl Tryd.func17 (by kernel_rfl) rfl #[.slice A0 l0.length c0] rfl (by (try simp only [List.map_toArray, List.map_cons, List.map_nil]); first | done | rfl | (simp only [List.length_drop, List.length_take]; rfl)) ?_; (with_reducible refine (laws_big.calls _ _ l0 true _ ?side1 ?side2 A2.out).mono ?_); (case side1 => repeat (first | exact HR0.out | (with_reducible refine Kd.C_alloc ?_ _) | (with_reducible refine Kd.C_drewN ?_ _) | (with_reducible refine Kd.C_drew ?_))); (case side2 => exact HC0.out); rintro e w' ⟨rfl, ⟨nd, rfl⟩⟩; refine ⟨_, rfl, ?_⟩))
    go_ret
    exact ⟨by first | rfl | (simp [errW_none, errW_some] <;> rfl) | (simp [*, errW_none, errW_some] <;> rfl), by repeat (first | (with_reducible first | exact HB.out | apply below_alloc | apply pw_below_drewN | apply below_drew1) | exact HB.out)⟩
  · replace c3 := Bool.eq_false_iff.mpr c3
    subst c3
    have H1 : ((spec_DrawAdd.f k l0).bind fun bt167 => ((laws_tail.f l0).bind fun t169 => ((spec_DrawAdd.f k t169).bind fun bt172 => ((impl_Add.f bt167.1 bt167.2).bind fun t174 => ((spec_Add.f bt167.1 bt167.2).bind fun t175 => (if t174 = t175 then ((impl_Add.f bt167.2 bt167.1).bind fun t176 => (if t174 = t176 then ((impl_Add.f bt167.1 bt167.2).bind fun t177 => ((impl_Add.f t177 bt172.1).bind fun t178 => ((impl_Add.f bt167.2 bt172.1).bind fun t179 => ((impl_Add.f bt167.1 t179).bind fun t180 => (if t178 = t180 then (if t174 < 0 then (laws_FnAdded.j0 k bt167.1 bt167.2 true) else (laws_FnAdded.j0 k bt167.1 bt167.2 (decide (t174 > 1000000000)))) else (laws_FnAdded.j0 k bt167.1 bt167.2 true)))))) else (laws_FnAdded.j0 k bt167.1 bt167.2 true))) else (laws_FnAdded.j0 k bt167.1 bt167.2 true))))))) = some r := by rw [if_neg (show ¬ (false = true) by decide)] at H; exact H
    clear H
    have H := H1
    clear H1
    replace H := Option.bind_eq_some_iff.mp H
    obtain ⟨⟨t167, t168⟩, A40, H⟩ := H
    replace H : ((laws_tail.f l0).bind fun t169 => ((spec_DrawAdd.f k t169).bind fun bt172 => ((impl_Add.f t167 t168).bind fun t174 => ((spec_Add.f t167 t168).bind fun t175 => (if t174 = t175 then ((impl_Add.f t168 t167).bind fun t176 => (if t174 = t176 then ((impl_Add.f t167 t168).bind fun t177 => ((impl_Add.f t177 bt172.1).bind fun t178 => ((impl_Add.f t168 bt172.1).bind fun t179 => ((impl_Add.f t167 t179).bind fun t180 => (if t178 = t180 then (if t174 < 0 then (laws_FnAdded.j0 k t167 t168 true) else (laws_FnAdded.j0 k t167 t168 (decide (t174 > 1000000000)))) else (laws_FnAdded.j0 k t167 t168 true)))))) else (laws_FnAdded.j0 k t167 t168 true))) else (laws_FnAdded.j0 k t167 t168 true)))))) = some r := H
    have A4 := Aside0.mk A40
    clear A40
    replace H := Option.bind_eq_some_iff.mp H
    obtain ⟨t169, A50, H⟩ := H
    replace H : ((spec_DrawAdd.f k t169).bind fun bt172 => ((impl_Add.f t167 t168).bind fun t174 => ((spec_Add.f t167 t168).bind fun t175 => (if t174 = t175 then ((impl_Add.f t168 t167).bind fun t176 => (if t174 = t176 then ((impl_Add.f t167 t168).bind fun t177 => ((impl_Add.f t177 bt172.1).bind fun t178 => ((impl_Add.f t168 bt172.1).bind fun t179 => ((impl_Add.f t167 t179).bind fun t180 => (if t178 = t180 then (if t174 < 0 then (laws_FnAdded.j0 k t167 t168 true) else (laws_FnAdded.j0 k t167 t168 (decide (t174 > 1000000000)))) else (laws_FnAdded.j0 k t167 t168 true)))))) else (laws_FnAdded.j0 k t167 t168 true))) else (laws_FnAdded.j0 k t167 t168 true))))) = some r := H
    have A5 := Aside0.mk A50
    clear A50
    replace H := Option.bind_eq_some_iff.mp H
    obtain ⟨⟨t172, t173⟩, A60, H⟩ := H
    replace H : ((impl_Add.f t167 t168).bind fun t174 => ((spec_Add.f t167 t168).bind fun t175 => (if t174 = t175 then ((impl_Add.f t168 t167).bind fun t176 => (if t174 = t176 then ((impl_Add.f t167 t168).bind fun t177 => ((impl_Add.f t177 t172).bind fun t178 => ((impl_Add.f t168 t172).bind fun t179 => ((impl_Add.f t167 t179).bind fun t180 => (if t178 = t180 then (if t174 < 0 then (laws_FnAdded.j0 k t167 t168 true) else (laws_FnAdded.j0 k t167 t168 (decide (t174 > 1000000000)))) else (laws_FnAdded.j0 k t167 t168 true)))))) else (laws_FnAdded.j0 k t167 t168 true))) else (laws_FnAdded.j0 k t167 t168 true)))) = some r := H
    have A6 := Aside0.mk A60
    clear A60
    replace H := Option.bind_eq_some_iff.mp H
    obtain ⟨t174, A70, H⟩ := H
    replace H : ((spec_Add.f t167 t168).bind fun t175 => (if t174 = t175 then ((impl_Add.f t168 t167).bind fun t176 => (if t174 = t176 then ((impl_Add.f t167 t168).bind fun t177 => ((impl_Add.f t177 t172).bind fun t178 => ((impl_Add.f t168 t172).bind fun t179 => ((impl_Add.f t167 t179).bind fun t180 => (if t178 = t180 then (if t174 < 0 then (laws_FnAdded.j0 k t167 t168 true) else (laws_FnAdded.j0 k t167 t168 (decide (t174 > 1000000000)))) else (laws_FnAdded.j0 k t167 t168 true)))))) else (laws_FnAdded.j0 k t167 t168 true))) else (laws_FnAdded.j0 k t167 t168 true))) = some r := H
    have A7 := Aside0.mk A70
    clear A70
    have HC8 := Aside0.mk H
    clear H
    go_enter Tryd.func4, Tryd.ntmps4
    go_upto_region 6 with (first | ((with_reducible refine gate_callee (f := 17) rfl ?_); refine goesL_ (some 11) rfl rfl Tryd.func17 (by kernel_rfl) rfl #[.slice A0 l0.length c0] rfl (by (try simp only [List.map_toArray, List.map_cons, List.map_nil]); first | done | rfl | (simp only [List.length_drop, List.length_take]; rfl)) ?_; (with_reducible refine (laws_big.calls _ _ l0 false _ ?side1 ?side2 A2.out).mono ?_); (case side1 => repeat (first | exact HR0.out | (with_reducible refine Kd.C_alloc ?_ _) | (with_reducible refine Kd.C_drewN ?_ _) | (with_reducible refine Kd.C_drew ?_))); (case side2 => exact HC0.out); rintro e w' ⟨rfl, ⟨nd, rfl⟩⟩; refine ⟨_, rfl, ?_⟩) | ((with_reducible refine gate_callee (f := 18) rfl ?_); refine goesL_ (some 14) rfl rfl Tryd.func18 (by kernel_rfl) rfl #[.slice A0 l0.length c0] rfl (by (try simp only [List.map_toArray, List.map_cons, List.map_nil]); first | done | rfl | (simp only [List.length_drop, List.length_take]; rfl)) ?_; (with_reducible refine (spec_DrawAdd.calls k _ _ l0 t167 t168 _ ?side1 ?side2 A4.out).mono ?_); (case side1 => repeat (first | exact HR0.out | (with_reducible refine Kd.C_alloc ?_ _) | (with_reducible refine Kd.C_drewN ?_ _) | (with_reducible refine Kd.C_drew ?_))); (case side2 => exact HC0.out); rintro e w9 ⟨rfl, hb⟩; refine ⟨_, rfl, ?_⟩; have n0_ := Aside0.mk (below_step (by repeat (first | (with_reducible first | exact HB.out | apply below_alloc | apply pw_below_drewN | apply below_drew1) | exact HB.out)) hb); clear HB; have HB := n0_; clear n0_; (try clear hb); (try clear hb2); (try clear hk); (try clear hi)) | ((with_reducible refine gate_callee (f := 19) rfl ?_); refine goesL_ (some 19) rfl rfl Tryd.func19 (by kernel_rfl) rfl #[.slice A0 l0.length c0] rfl (by (try simp only [List.map_toArray, List.map_cons, List.map_nil]); first | done | rfl | (simp only [List.length_drop, List.length_take]; rfl)) ?_; (with_reducible refine (laws_tail.calls (fun k_ => k_ < w.heap.size) _ _ l0 t169 _ ?side1 A5.out).mono ?_); (case side1 => exact Kd.V_mk HC0.out (Kd.F_below (Kd.C_F (Kd.heap_int .u8) HR0.out) (by repeat (first | (with_reducible first | exact HB.out | apply below_alloc | apply pw_below_drewN | apply below_drew1) | exact HB.out)))); rintro e w10 ⟨v170, rfl, ho0, hb⟩; refine ⟨_, rfl, ?_⟩; have n0_ := Aside0.mk (Kd.V_lower (Kd.V_mono (ok' := fun k_ => True) ho0 (fun k_ hk_ => trivial)) (below_size (by repeat (first | (with_reducible first | exact HB.out | apply below_alloc | apply pw_below_drewN | apply below_drew1) | exact HB.out)))); have n1_ := Aside0.mk (below_step (by repeat (first | (with_reducible first | exact HB.out | apply below_alloc | apply pw_below_drewN | apply below_drew1) | exact HB.out)) hb); clear HB; have HO171 := n0_; have HB := n1_; clear n0_ n1_; (try clear hb); (try clear hb2); (try clear hk); (try clear hi); (try clear ho0); obtain ⟨Ao11, co11, eo11⟩ := Kd.V_slice HO171.out; subst eo11) | ((with_reducible refine gate_callee (f := 18) rfl ?_); refine goesL_ (some 20) rfl rfl Tryd.func18 (by kernel_rfl) rfl #[.slice Ao11 t169.length co11] rfl (by (try simp only [List.map_toArray, List.map_cons, List.map_nil]); first | done | rfl | (simp only [List.length_drop, List.length_take]; rfl)) ?_; (with_reducible refine (spec_DrawAdd.calls k _ _ t169 t172 t173 _ ?side1 ?side2 A6.out).mono ?_); (case side1 => repeat (first | exact (Kd.V_reads' HO171.out).2.2 | (with_reducible refine Kd.C_alloc ?_ _) | (with_reducible refine Kd.C_drewN ?_ _) | (with_reducible refine Kd.C_drew ?_))); (case side2 => exact (Kd.V_reads' HO171.out).2.1); rintro e w12 ⟨rfl, hb⟩; refine ⟨_, rfl, ?_⟩; have n0_ := Aside0.mk (Kd.V_below (by (with_reducible repeat (first | apply Kd.V_alloc | apply Kd.V_drewN | apply Kd.V_drew)); exact HO171.out) hb); have n1_ := Aside0.mk (below_step (by repeat (first | (with_reducible first | exact HB.out | apply below_alloc | apply pw_below_drewN | apply below_drew1) | exact HB.out)) hb); clear HO171; clear HB; have HO171 := n0_; have HB := n1_; clear n0_ n1_; (try clear hb); (try clear hb2); (try clear hk); (try clear hi)) | ((with_reducible refine gate_callee (f := 20) rfl ?_); refine goesL_ (some 25) rfl rfl Tryd.func20 (by kernel_rfl) rfl #[.int .i64 t167, .int .i64 t168] rfl (by (try simp only [List.map_toArray, List.map_cons, List.map_nil]); first | done | rfl | (simp only [List.length_drop, List.length_take]; rfl)) ?_; (with_reducible refine (impl_Add.calls t167 t168 t174 _ A7.out).mono ?_); rintro e w13 ⟨rfl, hb⟩; refine ⟨_, rfl, ?_⟩; have n0_ := Aside0.mk (Kd.V_below (by (with_reducible repeat (first | apply Kd.V_alloc | apply Kd.V_drewN | apply Kd.V_drew)); exact HO171.out) hb); have n1_ := Aside0.mk (below_step (by repeat (first | (with_reducible first | exact HB.out | apply below_alloc | apply pw_below_drewN | apply below_drew1) | exact HB.out)) hb); clear HO171; clear HB; have HO171 := n0_; have HB := n1_; clear n0_ n1_; (try clear hb); (try clear hb2); (try clear hk); (try clear hi)))
    (try simp only [Act.put, List.setIfInBounds_toArray, List.set_cons_zero, List.set_cons_succ])
    go_cut [58] (fun v58 wc => ∃ (kq : Nat) (x58_7 : Bool), v58 = .bool x58_7 ∧ Aside0 (laws_FnAdded.j0 kq t167 t168 x58_7 = some r) ∧ Aside0 (kq ≤ k) ∧ Aside0 (Below w.heap.size w wc))
    case first =>
      have H := HC8.out
      clear HC8
      replace H := Option.bind_eq_some_iff.mp H
      obtain ⟨t175, A140, H⟩ := H
      replace H : (if t174 = t175 then ((impl_Add.f t168 t167).bind fun t176 => (if t174 = t176 then ((impl_Add.f t167 t168).bind fun t177 => ((impl_Add.f t177 t172).bind fun t178 => ((impl_Add.f t168 t172).bind fun t179 => ((impl_Add.f t167 t179).bind fun t180 => (if t178 = t180 then (if t174 < 0 then (laws_FnAdded.j0 k t167 t168 true) else (laws_FnAdded.j0 k t167 t168 (decide (t174 > 1000000000)))) else (laws_FnAdded.j0 k t167 t168 true)))))) else (laws_FnAdded.j0 k t167 t168 true))) else (laws_FnAdded.j0 k t167 t168 true)) = some r := H
      have A14 := Aside0.mk A140
      clear A140
      by_cases c15 : t174 = t175
      · rw [if_pos c15] at H
        have c15b0 : (t174 == t175) = true := beq_iff_eq.mpr c15
        have c15b1 : (t174 != t175) = false := bne_eq_false_iff_eq.mpr c15
        clear c15
        (first | rw [c15b0] | (simp only [i64_w, i32_w]; rw [c15b0]) | rw [c15b1] | rw [c15b2] | rw [c15b3] | skip)
        replace H := Option.bind_eq_some_iff.mp H
        obtain ⟨t176, A160, H⟩ := H
        replace H : (if t174 = t176 then ((impl_Add.f t167 t168).bind fun t177 => ((impl_Add.f t177 t172).bind fun t178 => ((impl_Add.f t168 t172).bind fun t179 => ((impl_Add.f t167 t179).bind fun t180 => (if t178 = t180 then (if t174 < 0 then (laws_FnAdded.j0 k t167 t168 true) else (laws_FnAdded.j0 k t167 t168 (decide (t174 > 1000000000)))) else (laws_FnAdded.j0 k t167 t168 true)))))) else (laws_FnAdded.j0 k t167 t168 true)) = some r := H
        have A16 := Aside0.mk A160
        clear A160
        by_cases c17 : t174 = t176
        · rw [if_pos c17] at H
          have c17b0 : (t174 == t176) = true := beq_iff_eq.mpr c17
          have c17b1 : (t174 != t176) = false := bne_eq_false_iff_eq.mpr c17
          clear c17
          replace H := Option.bind_eq_some_iff.mp H
          obtain ⟨t177, A180, H⟩ := H
          obtain rfl := Option.some.inj (A7.out.symm.trans A180)
          replace H : ((impl_Add.f t174 t172).bind fun t178 => ((impl_Add.f t168 t172).bind fun t179 => ((impl_Add.f t167 t179).bind fun t180 => (if t178 = t180 then (if t174 < 0 then (laws_FnAdded.j0 k t167 t168 true) else (laws_FnAdded.j0 k t167 t168 (decide (t174 > 1000000000)))) else (laws_FnAdded.j0 k t167 t168 true))))) = some r := H
          have A18 := Aside0.mk A180
          clear A180
          replace H := Option.bind_eq_some_iff.mp H
          obtain ⟨t178, A190, H⟩ := H
          replace H : ((impl_Add.f t168 t172).bind fun t179 => ((impl_Add.f t167 t179).bind fun t180 => (if t178 = t180 then (if t174 < 0 then (laws_FnAdded.j0 k t167 t168 true) else (laws_FnAdded.j0 k t167 t168 (decide (t174 > 1000000000)))) else (laws_FnAdded.j0 k t167 t168 true)))) = some r := H
          have A19 := Aside0.mk A190
          clear A190
          replace H := Option.bind_eq_some_iff.mp H
          obtain ⟨t179, A200, H⟩ := H
          replace H : ((impl_Add.f t167 t179).bind fun t180 => (if t178 = t180 then (if t174 < 0 then (laws_FnAdded.j0 k t167 t168 true) else (laws_FnAdded.j0 k t167 t168 (decide (t174 > 1000000000)))) else (laws_FnAdded.j0 k t167 t168 true))) = some r := H
          have A20 := Aside0.mk A200
          clear A200
          replace H := Option.bind_eq_some_iff.mp H
          obtain ⟨t180, A210, H⟩ := H
          replace H : (if t178 = t180 then (if t174 < 0 then (laws_FnAdded.j0 k t167 t168 true) else (laws_FnAdded.j0 k t167 t168 (decide (t174 > 1000000000)))) else (laws_FnAdded.j0 k t167 t168 true)) = some r := H
          have A21 := Aside0.mk A210
          clear A210
          by_cases c22 : t178 = t180
          · rw [if_pos c22] at H
            have c22b0 : (t178 == t180) = true := beq_iff_eq.mpr c22
            have c22b1 : (t178 != t180) = false := bne_eq_false_iff_eq.mpr c22
            clear c22
            by_cases c23 : t174 < 0
            · rw [if_pos c23] at H
              have c23b0 : decide (t174 < 0) = true := decide_eq_true c23
              clear c23
              have H' := Aside0.mk H
              clear H
              go_wp2_with (first | ((with_reducible refine gate_callee (f := 21) rfl ?_); refine goesL_ (some 29) rfl rfl Tryd.func21 (by kernel_rfl) rfl #[.int .i64 t167, .int .i64 t168] rfl (by (try simp only [List.map_toArray, List.map_cons, List.map_nil]); first | done | rfl | (simp only [List.length_drop, List.length_take]; rfl)) ?_; (with_reducible refine (spec_Add.calls t167 t168 t175 _ A14.out).mono ?_); rintro e w' ⟨rfl, ⟨nd, rfl⟩⟩; refine ⟨_, rfl, ?_⟩) | (go_at_call 20; (with_reducible refine (impl_Add.calls t168 t167 t176 _ A16.out).mono ?_); rintro e w24 ⟨rfl, hb⟩; have n0_ := Aside0.mk (Kd.V_below (by (with_reducible repeat (first | apply Kd.V_alloc | apply Kd.V_drewN | apply Kd.V_drew)); exact HO171.out) hb); have n1_ := Aside0.mk (below_step (by repeat (first | (with_reducible first | exact HB.out | apply below_alloc | apply pw_below_drewN | apply below_drew1) | exact HB.out)) hb); clear HO171; clear HB; have HO171 := n0_; have HB := n1_; clear n0_ n1_; (try clear hb); (try clear hb2); (try clear hk); (try clear hi)) | (go_at_call 20; (with_reducible refine (impl_Add.calls t167 t168 t174 _ A18.out).mono ?_); rintro e w25 ⟨rfl, hb⟩; have n0_ := Aside0.mk (Kd.V_below (by (with_reducible repeat (first | apply Kd.V_alloc | apply Kd.V_drewN | apply Kd.V_drew)); exact HO171.out) hb); have n1_ := Aside0.mk (below_step (by repeat (first | (with_reducible first | exact HB.out | apply below_alloc | apply pw_below_drewN | apply below_drew1) | exact HB.out)) hb); clear HO171; clear HB; have HO171 := n0_; have HB := n1_; clear n0_ n1_; (try clear hb); (try clear hb2); (try clear hk); (try clear hi)) | (go_at_call 20; (with_reducible refine (impl_Add.calls t174 t172 t178 _ A19.out).mono ?_); rintro e w26 ⟨rfl, hb⟩; have n0_ := Aside0.mk (Kd.V_below (by (with_reducible repeat (first | apply Kd.V_alloc | apply Kd.V_drewN | apply Kd.V_drew)); exact HO171.out) hb); have n1_ := Aside0.mk (below_step (by repeat (first | (with_reducible first | exact HB.out | apply below_alloc | apply pw_below_drewN | apply below_drew1) | exact HB.out)) hb); clear HO171; clear HB; have HO171 := n0_; have HB := n1_; clear n0_ n1_; (try clear hb); (try clear hb2); (try clear hk); (try clear hi)) | (go_at_call 20; (with_reducible refine (impl_Add.calls t168 t172 t179 _ A20.out).mono ?_); rintro e w27 ⟨rfl, hb⟩; have n0_ := Aside0.mk (Kd.V_below (by (with_reducible repeat (first | apply Kd.V_alloc | apply Kd.V_drewN | apply Kd.V_drew)); exact HO171.out) hb); have n1_ := Aside0.mk (below_step (by repeat (first | (with_reducible first | exact HB.out | apply below_alloc | apply pw_below_drewN | apply below_drew1) | exact HB.out)) hb); clear HO171; clear HB; have HO171 := n0_; have HB := n1_; clear n0_ n1_; (try clear hb); (try clear hb2); (try clear hk); (try clear hi)) | (go_at_call 20; (with_reducible refine (impl_Add.calls t167 t179 t180 _ A21.out).mono ?_); rintro e w28 ⟨rfl, hb⟩; have n0_ := Aside0.mk (Kd.V_below (by (with_reducible repeat (first | apply Kd.V_alloc | apply Kd.V_drewN | apply Kd.V_drew)); exact HO171.out) hb); have n1_ := Aside0.mk (below_step (by repeat (first | (with_reducible first | exact HB.out | apply below_alloc | apply pw_below_drewN | apply below_drew1) | exact HB.out)) hb); clear HO171; clear HB; have HO171 := n0_; have HB := n1_; clear n0_ n1_; (try clear hb); (try clear hb2); (try clear hk); (try clear hi)))
              (first | go_meet | (refine Met.intro ?_; go_step; (repeat apply Exists.intro); refine ⟨?rel, ?eqs⟩; case eqs => ((try rw [show (t174 != t175) = true from by assumption]); (try rw [show (t174 != t175) = false from by assumption]); (try rw [show (t174 != t176) = true from by assumption]); (try rw [show (t174 != t176) = false from by assumption]); (try rw [show (t178 != t180) = true from by assumption]); (try rw [show (t178 != t180) = false from by assumption]); (try rw [show (decide (t174 < 0)) = true from by assumption]); (try rw [show (decide (t174 < 0)) = false from by assumption]); (try rfl))))
              case rel => exact ⟨_, (true), (by first | rfl | (simp; done) | (simp [*]; done)), H', ⟨by first | omega | exact Nat.le_refl _⟩, ⟨by repeat (first | (with_reducible first | exact HB.out | apply below_alloc | apply pw_below_drewN | apply below_drew1) | exact HB.out)⟩⟩
            · rw [if_neg c23] at H
              have c23b0 : decide (t174 < 0) = false := decide_eq_false c23
              clear c23
              have H' := Aside0.mk H
              clear H
              go_wp2_with (first | ((with_reducible refine gate_callee (f := 21) rfl ?_); refine goesL_ (some 29) rfl rfl Tryd.func21 (by kernel_rfl) rfl #[.int .i64 t167, .int .i64 t168] rfl (by (try simp only [List.map_toArray, List.map_cons, List.map_nil]); first | done | rfl | (simp only [List.length_drop, List.length_take]; rfl)) ?_; (with_reducible refine (spec_Add.calls t167 t168 t175 _ A14.out).mono ?_); rintro e w' ⟨rfl, ⟨nd, rfl⟩⟩; refine ⟨_, rfl, ?_⟩) | (go_at_call 20; (with_reducible refine (impl_Add.calls t168 t167 t176 _ A16.out).mono ?_); rintro e w29 ⟨rfl, hb⟩; have n0_ := Aside0.mk (Kd.V_below (by (with_reducible repeat (first | apply Kd.V_alloc | apply Kd.V_drewN | apply Kd.V_drew)); exact HO171.out) hb); have n1_ := Aside0.mk (below_step (by repeat (first | (with_reducible first | exact HB.out | apply below_alloc | apply pw_below_drewN | apply below_drew1) | exact HB.out)) hb); clear HO171; clear HB; have HO171 := n0_; have HB := n1_; clear n0_ n1_; (try clear hb); (try clear hb2); (try clear hk); (try clear hi)) | (go_at_call 20; (with_reducible refine (impl_Add.calls t167 t168 t174 _ A18.out).mono ?_); rintro e w30 ⟨rfl, hb⟩; have n0_ := Aside0.mk (Kd.V_below (by (with_reducible repeat (first | apply Kd.V_alloc | apply Kd.V_drewN | apply Kd.V_drew)); exact HO171.out) hb); have n1_ := Aside0.mk (below_step (by repeat (first | (with_reducible first | exact HB.out | apply below_alloc | apply pw_below_drewN | apply below_drew1) | exact HB.out)) hb); clear HO171; clear HB; have HO171 := n0_; have HB := n1_; clear n0_ n1_; (try clear hb); (try clear hb2); (try clear hk); (try clear hi)) | (go_at_call 20; (with_reducible refine (impl_Add.calls t174 t172 t178 _ A19.out).mono ?_); rintro e w31 ⟨rfl, hb⟩; have n0_ := Aside0.mk (Kd.V_below (by (with_reducible repeat (first | apply Kd.V_alloc | apply Kd.V_drewN | apply Kd.V_drew)); exact HO171.out) hb); have n1_ := Aside0.mk (below_step (by repeat (first | (with_reducible first | exact HB.out | apply below_alloc | apply pw_below_drewN | apply below_drew1) | exact HB.out)) hb); clear HO171; clear HB; have HO171 := n0_; have HB := n1_; clear n0_ n1_; (try clear hb); (try clear hb2); (try clear hk); (try clear hi)) | (go_at_call 20; (with_reducible refine (impl_Add.calls t168 t172 t179 _ A20.out).mono ?_); rintro e w32 ⟨rfl, hb⟩; have n0_ := Aside0.mk (Kd.V_below (by (with_reducible repeat (first | apply Kd.V_alloc | apply Kd.V_drewN | apply Kd.V_drew)); exact HO171.out) hb); have n1_ := Aside0.mk (below_step (by repeat (first | (with_reducible first | exact HB.out | apply below_alloc | apply pw_below_drewN | apply below_drew1) | exact HB.out)) hb); clear HO171; clear HB; have HO171 := n0_; have HB := n1_; clear n0_ n1_; (try clear hb); (try clear hb2); (try clear hk); (try clear hi)) | (go_at_call 20; (with_reducible refine (impl_Add.calls t167 t179 t180 _ A21.out).mono ?_); rintro e w33 ⟨rfl, hb⟩; have n0_ := Aside0.mk (Kd.V_below (by (with_reducible repeat (first | apply Kd.V_alloc | apply Kd.V_drewN | apply Kd.V_drew)); exact HO171.out) hb); have n1_ := Aside0.mk (below_step (by repeat (first | (with_reducible first | exact HB.out | apply below_alloc | apply pw_below_drewN | apply below_drew1) | exact HB.out)) hb); clear HO171; clear HB; have HO171 := n0_; have HB := n1_; clear n0_ n1_; (try clear hb); (try clear hb2); (try clear hk); (try clear hi)))
              (first | go_meet | (refine Met.intro ?_; go_step; (repeat apply Exists.intro); refine ⟨?rel, ?eqs⟩; case eqs => ((try rw [show (t174 != t175) = true from by assumption]); (try rw [show (t174 != t175) = false from by assumption]); (try rw [show (t174 != t176) = true from by assumption]); (try rw [show (t174 != t176) = false from by assumption]); (try rw [show (t178 != t180) = true from by assumption]); (try rw [show (t178 != t180) = false from by assumption]); (try rw [show (decide (t174 < 0)) = true from by assumption]); (try rw [show (decide (t174 < 0)) = false from by assumption]); (try rw [show (decide (t174 > 1000000000)) = true from by assumption]); (try rw [show (decide (t174 > 1000000000)) = false from by assumption]); (try rfl))))
              case rel => exact ⟨_, (decide (t174 > 1000000000)), (by first | rfl | (simp; done) | (simp [*]; done)), H', ⟨by first | omega | exact Nat.le_refl _⟩, ⟨by repeat (first | (with_reducible first | exact HB.out | apply below_alloc | apply pw_below_drewN | apply below_drew1) | exact HB.out)⟩⟩
          · rw [if_neg c22] at H
            have c22b0 : (t178 == t180) = false := beq_eq_false_iff_ne.mpr c22
            have c22b1 : (t178 != t180) = true := bne_iff_ne.mpr c22
            have H' := Aside0.mk H
            clear H
            go_wp2_with (first | ((with_reducible refine gate_callee (f := 21) rfl ?_); refine goesL_ (some 29) rfl rfl Tryd.func21 (by kernel_rfl) rfl #[.int .i64 t167, .int .i64 t168] rfl (by (try simp only [List.map_toArray, List.map_cons, List.map_nil]); first | done | rfl | (simp only [List.length_drop, List.length_take]; rfl)) ?_; (with_reducible refine (spec_Add.calls t167 t168 t175 _ A14.out).mono ?_); rintro e w' ⟨rfl, ⟨nd, rfl⟩⟩; refine ⟨_, rfl, ?_⟩) | (go_at_call 20; (with_reducible refine (impl_Add.calls t168 t167 t176 _ A16.out).mono ?_); rintro e w34 ⟨rfl, hb⟩; have n0_ := Aside0.mk (Kd.V_below (by (with_reducible repeat (first | apply Kd.V_alloc | apply Kd.V_drewN | apply Kd.V_drew)); exact HO171.out) hb); have n1_ := Aside0.mk (below_step (by repeat (first | (with_reducible first | exact HB.out | apply below_alloc | apply pw_below_drewN | apply below_drew1) | exact HB.out)) hb); clear HO171; clear HB; have HO171 := n0_; have HB := n1_; clear n0_ n1_; (try clear hb); (try clear hb2); (try clear hk); (try clear hi)) | (go_at_call 20; (with_reducible refine (impl_Add.calls t167 t168 t174 _ A18.out).mono ?_); rintro e w35 ⟨rfl, hb⟩; have n0_ := Aside0.mk (Kd.V_below (by (with_reducible repeat (first | apply Kd.V_alloc | apply Kd.V_drewN | apply Kd.V_drew)); exact HO171.out) hb); have n1_ := Aside0.mk (below_step (by repeat (first | (with_reducible first | exact HB.out | apply below_alloc | apply pw_below_drewN | apply below_drew1) | exact HB.out)) hb); clear HO171; clear HB; have HO171 := n0_; have HB := n1_; clear n0_ n1_; (try clear hb); (try clear hb2); (try clear hk); (try clear hi)) | (go_at_call 20; (with_reducible refine (impl_Add.calls t174 t172 t178 _ A19.out).mono ?_); rintro e w36 ⟨rfl, hb⟩; have n0_ := Aside0.mk (Kd.V_below (by (with_reducible repeat (first | apply Kd.V_alloc | apply Kd.V_drewN | apply Kd.V_drew)); exact HO171.out) hb); have n1_ := Aside0.mk (below_step (by repeat (first | (with_reducible first | exact HB.out | apply below_alloc | apply pw_below_drewN | apply below_drew1) | exact HB.out)) hb); clear HO171; clear HB; have HO171 := n0_; have HB := n1_; clear n0_ n1_; (try clear hb); (try clear hb2); (try clear hk); (try clear hi)) | (go_at_call 20; (with_reducible refine (impl_Add.calls t168 t172 t179 _ A20.out).mono ?_); rintro e w37 ⟨rfl, hb⟩; have n0_ := Aside0.mk (Kd.V_below (by (with_reducible repeat (first | apply Kd.V_alloc | apply Kd.V_drewN | apply Kd.V_drew)); exact HO171.out) hb); have n1_ := Aside0.mk (below_step (by repeat (first | (with_reducible first | exact HB.out | apply below_alloc | apply pw_below_drewN | apply below_drew1) | exact HB.out)) hb); clear HO171; clear HB; have HO171 := n0_; have HB := n1_; clear n0_ n1_; (try clear hb); (try clear hb2); (try clear hk); (try clear hi)) | (go_at_call 20; (with_reducible refine (impl_Add.calls t167 t179 t180 _ A21.out).mono ?_); rintro e w38 ⟨rfl, hb⟩; have n0_ := Aside0.mk (Kd.V_below (by (with_reducible repeat (first | apply Kd.V_alloc | apply Kd.V_drewN | apply Kd.V_drew)); exact HO171.out) hb); have n1_ := Aside0.mk (below_step (by repeat (first | (with_reducible first | exact HB.out | apply below_alloc | apply pw_below_drewN | apply below_drew1) | exact HB.out)) hb); clear HO171; clear HB; have HO171 := n0_; have HB := n1_; clear n0_ n1_; (try clear hb); (try clear hb2); (try clear hk); (try clear hi)))
            (first | go_meet | (refine Met.intro ?_; go_step; (repeat apply Exists.intro); refine ⟨?rel, ?eqs⟩; case eqs => ((try rw [show (t174 != t175) = true from by assumption]); (try rw [show (t174 != t175) = false from by assumption]); (try rw [show (t174 != t176) = true from by assumption]); (try rw [show (t174 != t176) = false from by assumption]); (try rw [show (t178 != t180) = true from by assumption]); (try rw [show (t178 != t180) = false from by assumption]); (try rfl))))
            case rel => exact ⟨_, (true), (by first | rfl | (simp; done) | (simp [*]; done)), H', ⟨by first | omega | exact Nat.le_refl _⟩, ⟨by repeat (first | (with_reducible first | exact HB.out | apply below_alloc | apply pw_below_drewN | apply below_drew1) | exact HB.out)⟩⟩
        · rw [if_neg c17] at H
          have c17b0 : (t174 == t176) = false := beq_eq_false_iff_ne.mpr c17
          have c17b1 : (t174 != t176) = true := bne_iff_ne.mpr c17
          have H' := Aside0.mk H
          clear H
          go_wp2_with (first | ((with_reducible refine gate_callee (f := 21) rfl ?_); refine goesL_ (some 29) rfl rfl Tryd.func21 (by kernel_rfl) rfl #[.int .i64 t167, .int .i64 t168] rfl (by (try simp only [List.map_toArray, List.map_cons, List.map_nil]); first | done | rfl | (simp only [List.length_drop, List.length_take]; rfl)) ?_; (with_reducible refine (spec_Add.calls t167 t168 t175 _ A14.out).mono ?_); rintro e w' ⟨rfl, ⟨nd, rfl⟩⟩; refine ⟨_, rfl, ?_⟩) | (go_at_call 20; (with_reducible refine (impl_Add.calls t168 t167 t176 _ A16.out).mono ?_); rintro e w39 ⟨rfl, hb⟩; have n0_ := Aside0.mk (Kd.V_below (by (with_reducible repeat (first | apply Kd.V_alloc | apply Kd.V_drewN | apply Kd.V_drew)); exact HO171.out) hb); have n1_ := Aside0.mk (below_step (by repeat (first | (with_reducible first | exact HB.out | apply below_alloc | apply pw_below_drewN | apply below_drew1) | exact HB.out)) hb); clear HO171; clear HB; have HO171 := n0_; have HB := n1_; clear n0_ n1_; (try clear hb); (try clear hb2); (try clear hk); (try clear hi)))
          (first | go_meet | (refine Met.intro ?_; go_step; (repeat apply Exists.intro); refine ⟨?rel, ?eqs⟩; case eqs => ((try rw [show (t174 != t175) = true from by assumption]); (try rw [show (t174 != t175) = false from by assumption]); (try rw [show (t174 != t176) = true from by assumption]); (try rw [show (t174 != t176) = false from by assumption]); (try rfl))))
          case rel => exact ⟨_, (true), (by first | rfl | (simp; done) | (simp [*]; done)), H', ⟨by first | omega | exact Nat.le_refl _⟩, ⟨by repeat (first | (with_reducible first | exact HB.out | apply below_alloc | apply pw_below_drewN | apply below_drew1) | exact HB.out)⟩⟩
      · rw [if_neg c15] at H
        have c15b0 : (t174 == t175) = false := beq_eq_false_iff_ne.mpr c15
        have c15b1 : (t174 != t175) = true := bne_iff_ne.mpr c15
        (first | rw [c15b0] | (simp only [i64_w, i32_w]; rw [c15b0]) | rw [c15b1] | rw [c15b2] | rw [c15b3] | skip)
        have H' := Aside0.mk H
        clear H
        go_wp2_with (first | ((with_reducible refine gate_callee (f := 21) rfl ?_); refine goesL_ (some 29) rfl rfl Tryd.func21 (by kernel_rfl) rfl #[.int .i64 t167, .int .i64 t168] rfl (by (try simp only [List.map_toArray, List.map_cons, List.map_nil]); first | done | rfl | (simp only [List.length_drop, List.length_take]; rfl)) ?_; (with_reducible refine (spec_Add.calls t167 t168 t175 _ A14.out).mono ?_); rintro e w' ⟨rfl, ⟨nd, rfl⟩⟩; refine ⟨_, rfl, ?_⟩))
        (first | go_meet | (refine Met.intro ?_; go_step; (repeat apply Exists.intro); refine ⟨?rel, ?eqs⟩; case eqs => ((try rw [show (t174 != t175) = true from by assumption]); (try rw [show (t174 != t175) = false from by assumption]); (try rfl))))
        case rel => exact ⟨_, (true), (by first | rfl | (simp; done) | (simp [*]; done)), H', ⟨by first | omega | exact Nat.le_refl _⟩, ⟨by repeat (first | (with_reducible first | exact HB.out | apply below_alloc | apply pw_below_drewN | apply below_drew1) | exact HB.out)⟩⟩
    case rest =>
      clear HC8
      try clear c1
      try clear c2
      try clear p2
      try clear c3
      try clear c4
      try clear c15
      try clear c15b0
      try clear c15b1
      try clear c15b2
      try clear c17
      try clear c17b0
      try clear c17b1
      try clear c18
      try clear c19
      try clear c20
      try clear c21
      try clear c22
      try clear c22b0
      try clear c22b1
      try clear c23
      try clear c23b0
      obtain ⟨kq, x58_7, rfl, HA, HJ7, HB⟩ := hcut
      cases kq with
      | zero => exact absurd HA.out (by simp [laws_FnAdded.j0])
      | succ kj7 =>
        have H := HA.out
        clear HA
        simp only [laws_FnAdded.j0] at H
        by_cases c40 : x58_7 = true
        · subst c40
          have H1 : (some false) = some r := by rw [if_pos rfl] at H; exact H
          clear H
          have H := H1
          clear H1
          obtain rfl := Option.some.inj H
          exact absurd hrt.out (by decide)
        · replace c40 := Bool.eq_false_iff.mpr c40
          subst c40
          have H1 : ((impl_BucketOf.f kj7 t167).bind fun t181 => ((spec_BucketOf.f kj7 t167).bind fun t182 => (if t181 = t182 then (if t181 < 0 then (laws_FnAdded.j1 kj7 t167 t181 true) else (if t181 ≥ 8 then (laws_FnAdded.j1 kj7 t167 t181 true) else (if t167 ≤ t168 then ((impl_BucketOf.f kj7 t168).bind fun t183 => (laws_FnAdded.j1 kj7 t167 t181 (decide (t181 > t183)))) else (laws_FnAdded.j1 kj7 t167 t181 false)))) else (laws_FnAdded.j1 kj7 t167 t181 true)))) = some r := by rw [if_neg (show ¬ (false = true) by decide)] at H; exact H
          clear H
          have H := H1
          clear H1
          replace H := Option.bind_eq_some_iff.mp H
          obtain ⟨t181, A410, H⟩ := H
          replace H : ((spec_BucketOf.f kj7 t167).bind fun t182 => (if t181 = t182 then (if t181 < 0 then (laws_FnAdded.j1 kj7 t167 t181 true) else (if t181 ≥ 8 then (laws_FnAdded.j1 kj7 t167 t181 true) else (if t167 ≤ t168 then ((impl_BucketOf.f kj7 t168).bind fun t183 => (laws_FnAdded.j1 kj7 t167 t181 (decide (t181 > t183)))) else (laws_FnAdded.j1 kj7 t167 t181 false)))) else (laws_FnAdded.j1 kj7 t167 t181 true))) = some r := H
          have A41 := Aside0.mk A410
          clear A410
          have HC42 := Aside0.mk H
          clear H
          go_upto_region 9 with (first | ((with_reducible refine gate_callee (f := 22) rfl ?_); refine goesL_ (some 60) rfl rfl Tryd.func22 (by kernel_rfl) rfl #[.int .i64 t167] rfl (by (try simp only [List.map_toArray, List.map_cons, List.map_nil]); first | done | rfl | (simp only [List.length_drop, List.length_take]; rfl)) ?_; (with_reducible refine (impl_BucketOf.calls kj7 t167 t181 _ A41.out).mono ?_); rintro e w43 ⟨rfl, hb⟩; refine ⟨_, rfl, ?_⟩; have n0_ := Aside0.mk (below_step (by repeat (first | (with_reducible first | exact HB.out | apply below_alloc | apply pw_below_drewN | apply below_drew1) | exact HB.out)) hb); clear HB; have HB := n0_; clear n0_; (try clear hb); (try clear hb2); (try clear hk); (try clear hi)))
          (try simp only [Act.put, List.setIfInBounds_toArray, List.set_cons_zero, List.set_cons_succ])
          go_cut [83] (fun v83 wc => ∃ (kq : Nat) (x83_41 : Bool), v83 = .bool x83_41 ∧ Aside0 (laws_FnAdded.j1 kq t167 t181 x83_41 = some r) ∧ Aside0 (kq ≤ kj7) ∧ Aside0 (Below w.heap.size w wc))
          case first =>
            have H := HC42.out
            clear HC42
            replace H := Option.bind_eq_some_iff.mp H
            obtain ⟨t182, A440, H⟩ := H
            replace H : (if t181 = t182 then (if t181 < 0 then (laws_FnAdded.j1 kj7 t167 t181 true) else (if t181 ≥ 8 then (laws_FnAdded.j1 kj7 t167 t181 true) else (if t167 ≤ t168 then ((impl_BucketOf.f kj7 t168).bind fun t183 => (laws_FnAdded.j1 kj7 t167 t181 (decide (t181 > t183)))) else (laws_FnAdded.j1 kj7 t167 t181 false)))) else (laws_FnAdded.j1 kj7 t167 t181 true)) = some r := H
            have A44 := Aside0.mk A440
            clear A440
            by_cases c45 : t181 = t182
            · rw [if_pos c45] at H
              have c45b0 : (t181 == t182) = true := beq_iff_eq.mpr c45
              have c45b1 : (t181 != t182) = false := bne_eq_false_iff_eq.mpr c45
              clear c45
              (first | rw [c45b0] | (simp only [i64_w, i32_w]; rw [c45b0]) | rw [c45b1] | rw [c45b2] | rw [c45b3] | skip)
              by_cases c46 : t181 < 0
              · rw [if_pos c46] at H
                have c46b0 : decide (t181 < 0) = true := decide_eq_true c46
                clear c46
                have H' := Aside0.mk H
                clear H
                go_wp2_with (first | ((with_reducible refine gate_callee (f := 23) rfl ?_); refine goesL_ (some 63) rfl rfl Tryd.func23 (by kernel_rfl) rfl #[.int .i64 t167] rfl (by (try simp only [List.map_toArray, List.map_cons, List.map_nil]); first | done | rfl | (simp only [List.length_drop, List.length_take]; rfl)) ?_; (with_reducible refine (spec_BucketOf.calls kj7 t167 t182 _ A44.out).mono ?_); rintro e w' ⟨rfl, ⟨nd, rfl⟩⟩; refine ⟨_, rfl, ?_⟩))
                (first | go_meet | (refine Met.intro ?_; go_step; (repeat apply Exists.intro); refine ⟨?rel, ?eqs⟩; case eqs => ((try rw [show (t181 != t182) = true from by assumption]); (try rw [show (t181 != t182) = false from by assumption]); (try rw [show (decide (t181 < 0)) = true from by assumption]); (try rw [show (decide (t181 < 0)) = false from by assumption]); (try rfl))))
                case rel => exact ⟨_, (true), (by first | rfl | (simp; done) | (simp [*]; done)), H', ⟨by have := HJ7.out; first | omega | exact Nat.le_refl _⟩, ⟨by repeat (first | (with_reducible first | exact HB.out | apply below_alloc | apply pw_below_drewN | apply below_drew1) | exact HB.out)⟩⟩
              · rw [if_neg c46] at H
                have c46b0 : decide (t181 < 0) = false := decide_eq_false c46
                clear c46
                by_cases c47 : t181 ≥ 8
                · rw [if_pos c47] at H
                  have c47b0 : decide (8 ≤ t181) = true := decide_eq_true c47
                  clear c47
                  have H' := Aside0.mk H
                  clear H
                  go_wp2_with (first | ((with_reducible refine gate_callee (f := 23) rfl ?_); refine goesL_ (some 63) rfl rfl Tryd.func23 (by kernel_rfl) rfl #[.int .i64 t167] rfl (by (try simp only [List.map_toArray, List.map_cons, List.map_nil]); first | done | rfl | (simp only [List.length_drop, List.length_take]; rfl)) ?_; (with_reducible refine (spec_BucketOf.calls kj7 t167 t182 _ A44.out).mono ?_); rintro e w' ⟨rfl, ⟨nd, rfl⟩⟩; refine ⟨_, rfl, ?_⟩))
                  (first | go_meet | (refine Met.intro ?_; go_step; (repeat apply Exists.intro); refine ⟨?rel, ?eqs⟩; case eqs => ((try rw [show (t181 != t182) = true from by assumption]); (try rw [show (t181 != t182) = false from by assumption]); (try rw [show (decide (t181 < 0)) = true from by assumption]); (try rw [show (decide (t181 < 0)) = false from by assumption]); (try rw [show (decide (t181 ≥ 8)) = true from by assumption]); (try rw [show (decide (t181 ≥ 8)) = false from by assumption]); (try rfl))))
                  case rel => exact ⟨_, (true), (by first | rfl | (simp; done) | (simp [*]; done)), H', ⟨by have := HJ7.out; first | omega | exact Nat.le_refl _⟩, ⟨by repeat (first | (with_reducible first | exact HB.out | apply below_alloc | apply pw_below_drewN | apply below_drew1) | exact HB.out)⟩⟩
                · rw [if_neg c47] at H
                  have c47b0 : decide (8 ≤ t181) = false := decide_eq_false c47
                  clear c47
                  by_cases c48 : t167 ≤ t168
                  · rw [if_pos c48] at H
                    have c48b0 : decide (t167 ≤ t168) = true := decide_eq_true c48
                    clear c48
                    replace H := Option.bind_eq_some_iff.mp H
                    obtain ⟨t183, A490, H⟩ := H
                    replace H : (laws_FnAdded.j1 kj7 t167 t181 (decide (t181 > t183))) = some r := H
                    have A49 := Aside0.mk A490
                    clear A490
                    have H' := Aside0.mk H
                    clear H
                    go_wp2_with (first | ((with_reducible refine gate_callee (f := 23) rfl ?_); refine goesL_ (some 63) rfl rfl Tryd.func23 (by kernel_rfl) rfl #[.int .i64 t167] rfl (by (try simp only [List.map_toArray, List.map_cons, List.map_nil]); first | done | rfl | (simp only [List.length_drop, List.length_take]; rfl)) ?_; (with_reducible refine (spec_BucketOf.calls kj7 t167 t182 _ A44.out).mono ?_); rintro e w' ⟨rfl, ⟨nd, rfl⟩⟩; refine ⟨_, rfl, ?_⟩) | (go_at_call 22; (with_reducible refine (impl_BucketOf.calls kj7 t168 t183 _ A49.out).mono ?_); rintro e w50 ⟨rfl, hb⟩; have n0_ := Aside0.mk (below_step (by repeat (first | (with_reducible first | exact HB.out | apply below_alloc | apply pw_below_drewN | apply below_drew1) | exact HB.out)) hb); clear HB; have HB := n0_; clear n0_; (try clear hb); (try clear hb2); (try clear hk); (try clear hi)))
                    (first | go_meet | (refine Met.intro ?_; go_step; (repeat apply Exists.intro); refine ⟨?rel, ?eqs⟩; case eqs => ((try rw [show (t181 != t182) = true from by assumption]); (try rw [show (t181 != t182) = false from by assumption]); (try rw [show (decide (t181 < 0)) = true from by assumption]); (try rw [show (decide (t181 < 0)) = false from by assumption]); (try rw [show (decide (t181 ≥ 8)) = true from by assumption]); (try rw [show (decide (t181 ≥ 8)) = false from by assumption]); (try rw [show (decide (t167 ≤ t168)) = true from by assumption]); (try rw [show (decide (t167 ≤ t168)) = false from by assumption]); (try rw [show (decide (t181 > t183)) = true from by assumption]); (try rw [show (decide (t181 > t183)) = false from by assumption]); (try rfl))))
                    case rel => exact ⟨_, (decide (t181 > t183)), (by first | rfl | (simp; done) | (simp [*]; done)), H', ⟨by have := HJ7.out; first | omega | exact Nat.le_refl _⟩, ⟨by repeat (first | (with_reducible first | exact HB.out | apply below_alloc | apply pw_below_drewN | apply below_drew1) | exact HB.out)⟩⟩
                  · rw [if_neg c48] at H
                    have c48b0 : decide (t167 ≤ t168) = false := decide_eq_false c48
                    clear c48
                    have H' := Aside0.mk H
                    clear H
                    go_wp2_with (first | ((with_reducible refine gate_callee (f := 23) rfl ?_); refine goesL_ (some 63) rfl rfl Tryd.func23 (by kernel_rfl) rfl #[.int .i64 t167] rfl (by (try simp only [List.map_toArray, List.map_cons, List.map_nil]); first | done | rfl | (simp only [List.length_drop, List.length_take]; rfl)) ?_; (with_reducible refine (spec_BucketOf.calls kj7 t167 t182 _ A44.out).mono ?_); rintro e w' ⟨rfl, ⟨nd, rfl⟩⟩; refine ⟨_, rfl, ?_⟩))
                    (first | go_meet | (refine Met.intro ?_; go_step; (repeat apply Exists.intro); refine ⟨?rel, ?eqs⟩; case eqs => ((try rw [show (t181 != t182) = true from by assumption]); (try rw [show (t181 != t182) = false from by assumption]); (try rw [show (decide (t181 < 0)) = true from by assumption]); (try rw [show (decide (t181 < 0)) = false from by assumption]); (try rw [show (decide (t181 ≥ 8)) = true from by assumption]); (try rw [show (decide (t181 ≥ 8)) = false from by assumption]); (try rw [show (decide (t167 ≤ t168)) = true from by assumption]); (try rw [show (decide (t167 ≤ t168)) = false from by assumption]); (try rfl))))
                    case rel => exact ⟨_, (false), (by first | rfl | (simp; done) | (simp [*]; done)), H', ⟨by have := HJ7.out; first | omega | exact Nat.le_refl _⟩, ⟨by repeat (first | (with_reducible first | exact HB.out | apply below_alloc | apply pw_below_drewN | apply below_drew1) | exact HB.out)⟩⟩
            · rw [if_neg c45] at H
              have c45b0 : (t181 == t182) = false := beq_eq_false_iff_ne.mpr c45
              have c45b1 : (t181 != t182) = true := bne_iff_ne.mpr c45
              (first | rw [c45b0] | (simp only [i64_w, i32_w]; rw [c45b0]) | rw [c45b1] | rw [c45b2] | rw [c45b3] | skip)
              have H' := Aside0.mk H
              clear H
              go_wp2_with (first | ((with_reducible refine gate_callee (f := 23) rfl ?_); refine goesL_ (some 63) rfl rfl Tryd.func23 (by kernel_rfl) rfl #[.int .i64 t167] rfl (by (try simp only [List.map_toArray, List.map_cons, List.map_nil]); first | done | rfl | (simp only [List.length_drop, List.length_take]; rfl)) ?_; (with_reducible refine (spec_BucketOf.calls kj7 t167 t182 _ A44.out).mono ?_); rintro e w' ⟨rfl, ⟨nd, rfl⟩⟩; refine ⟨_, rfl, ?_⟩))
              (first | go_meet | (refine Met.intro ?_; go_step; (repeat apply Exists.intro); refine ⟨?rel, ?eqs⟩; case eqs => ((try rw [show (t181 != t182) = true from by assumption]); (try rw [show (t181 != t182) = false from by assumption]); (try rfl))))
              case rel => exact ⟨_, (true), (by first | rfl | (simp; done) | (simp [*]; done)), H', ⟨by have := HJ7.out; first | omega | exact Nat.le_refl _⟩, ⟨by repeat (first | (with_reducible first | exact HB.out | apply below_alloc | apply pw_below_drewN | apply below_drew1) | exact HB.out)⟩⟩
          case rest =>
            clear HC42
            try clear c1
            try clear c2
            try clear p2
            try clear c3
            try clear c4
            try clear c15
            try clear c15b0
            try clear c15b1
            try clear c15b2
            try clear c17
            try clear c17b0
            try clear c17b1
            try clear c18
            try clear c19
            try clear c20
            try clear c21
            try clear c22
            try clear c22b0
            try clear c22b1
            try clear c23
            try clear c23b0
            try clear c40
            try clear c45
            try clear c45b0
            try clear c45b1
            try clear c45b2
            try clear c46
            try clear c46b0
            try clear c47
            try clear c47b0
            try clear c48
            try clear c48b0
            try clear p2
            obtain ⟨kq, x83_41, rfl, HA, HJ41, HB⟩ := hcut
            cases kq with
            | zero => exact absurd HA.out (by simp [laws_FnAdded.j1])
            | succ kj41 =>
              have H := HA.out
              clear HA
              simp only [laws_FnAdded.j1] at H
              by_cases c51 : x83_41 = true
              · subst c51
                have H1 : (some false) = some r := by rw [if_pos rfl] at H; exact H
                clear H
                have H := H1
                clear H1
                obtain rfl := Option.some.inj H
                exact absurd hrt.out (by decide)
              · replace c51 := Bool.eq_false_iff.mpr c51
                subst c51
                have H1 : ((impl_Low.f t181).bind fun t184 => (if t167 ≥ 0 then (if t167 ≤ 1000000 then (if t184 > t167 then (laws_FnAdded.j2 kj41 t167 true) else ((impl_BucketOf.f kj41 t184).bind fun t185 => (if t185 = t181 then (if (wrap64 (t181 + 1)) < 8 then ((impl_Low.f (wrap64 (t181 + 1))).bind fun t186 => (laws_FnAdded.j2 kj41 t167 (decide (t186 ≤ t167)))) else (laws_FnAdded.j2 kj41 t167 false)) else (laws_FnAdded.j2 kj41 t167 true)))) else (laws_FnAdded.j2 kj41 t167 false)) else (laws_FnAdded.j2 kj41 t167 false))) = some r := by rw [if_neg (show ¬ (false = true) by decide)] at H; exact H
                clear H
                have H := H1
                clear H1
                replace H := Option.bind_eq_some_iff.mp H
                obtain ⟨t184, A520, H⟩ := H
                replace H : (if t167 ≥ 0 then (if t167 ≤ 1000000 then (if t184 > t167 then (laws_FnAdded.j2 kj41 t167 true) else ((impl_BucketOf.f kj41 t184).bind fun t185 => (if t185 = t181 then (if (wrap64 (t181 + 1)) < 8 then ((impl_Low.f (wrap64 (t181 + 1))).bind fun t186 => (laws_FnAdded.j2 kj41 t167 (decide (t186 ≤ t167)))) else (laws_FnAdded.j2 kj41 t167 false)) else (laws_FnAdded.j2 kj41 t167 true)))) else (laws_FnAdded.j2 kj41 t167 false)) else (laws_FnAdded.j2 kj41 t167 false)) = some r := H
                have A52 := Aside0.mk A520
                clear A520
                have HC53 := Aside0.mk H
                clear H
                go_upto_region 12 with (first | ((with_reducible refine gate_callee (f := 24) rfl ?_); refine goesL_ (some 85) rfl rfl Tryd.func24 (by kernel_rfl) rfl #[.int .i64 t181] rfl (by (try simp only [List.map_toArray, List.map_cons, List.map_nil]); first | done | rfl | (simp only [List.length_drop, List.length_take]; rfl)) ?_; (with_reducible refine (impl_Low.calls t181 t184 _ A52.out).mono ?_); rintro e w' ⟨rfl, ⟨nd, rfl⟩⟩; refine ⟨_, rfl, ?_⟩))
                (try simp only [Act.put, List.setIfInBounds_toArray, List.set_cons_zero, List.set_cons_succ])
                go_cut [114] (fun v114 wc => ∃ (kq : Nat) (x114_52 : Bool), v114 = .bool x114_52 ∧ Aside0 (laws_FnAdded.j2 kq t167 x114_52 = some r) ∧ Aside0 (kq ≤ kj41) ∧ Aside0 (Below w.heap.size w wc))
                case first =>
                  have H := HC53.out
                  clear HC53
                  by_cases c54 : t167 ≥ 0
                  · rw [if_pos c54] at H
                    have c54b0 : decide (0 ≤ t167) = true := decide_eq_true c54
                    clear c54
                    (first | rw [c54b0] | (simp only [i64_w, i32_w]; rw [c54b0]) | rw [c54b1] | rw [c54b2] | rw [c54b3] | skip)
                    by_cases c55 : t167 ≤ 1000000
                    · rw [if_pos c55] at H
                      have c55b0 : decide (t167 ≤ 1000000) = true := decide_eq_true c55
                      clear c55
                      by_cases c56 : t184 > t167
                      · rw [if_pos c56] at H
                        have c56b0 : decide (t167 < t184) = true := decide_eq_true c56
                        clear c56
                        have H' := Aside0.mk H
                        clear H
                        go_wp2
                        (first | go_meet | (refine Met.intro ?_; go_step; (repeat apply Exists.intro); refine ⟨?rel, ?eqs⟩; case eqs => ((try rw [show (decide (t167 ≥ 0)) = true from by assumption]); (try rw [show (decide (t167 ≥ 0)) = false from by assumption]); (try rw [show (decide (t167 ≤ 1000000)) = true from by assumption]); (try rw [show (decide (t167 ≤ 1000000)) = false from by assumption]); (try rw [show (decide (t184 > t167)) = true from by assumption]); (try rw [show (decide (t184 > t167)) = false from by assumption]); (try rfl))))
                        case rel => exact ⟨_, (true), (by first | rfl | (simp; done) | (simp [*]; done)), H', ⟨by have := HJ7.out; have := HJ41.out; first | omega | exact Nat.le_refl _⟩, ⟨by repeat (first | (with_reducible first | exact HB.out | apply below_alloc | apply pw_below_drewN | apply below_drew1) | exact HB.out)⟩⟩
                      · rw [if_neg c56] at H
                        have c56b0 : decide (t167 < t184) = false := decide_eq_false c56
                        clear c56
                        replace H := Option.bind_eq_some_iff.mp H
                        obtain ⟨t185, A570, H⟩ := H
                        replace H : (if t185 = t181 then (if (wrap64 (t181 + 1)) < 8 then ((impl_Low.f (wrap64 (t181 + 1))).bind fun t186 => (laws_FnAdded.j2 kj41 t167 (decide (t186 ≤ t167)))) else (laws_FnAdded.j2 kj41 t167 false)) else (laws_FnAdded.j2 kj41 t167 true)) = some r := H
                        have A57 := Aside0.mk A570
                        clear A570
                        by_cases c58 : t185 = t181
                        · rw [if_pos c58] at H
                          have c58b0 : (t185 == t181) = true := beq_iff_eq.mpr c58
                          have c58b1 : (t185 != t181) = false := bne_eq_false_iff_eq.mpr c58
                          clear c58
                          by_cases c59 : (wrap64 (t181 + 1)) < 8
                          · rw [if_pos c59] at H
                            have c59b0 : decide ((wrap64 (t181 + 1)) < 8) = true := decide_eq_true c59
                            (try (have c59b1 : decide ((IntKind.i64.wrap (t181 + 1)) < 8) = true := by simp only [i64_w]; first | exact decide_eq_true c59 | simpa using c59))
                            clear c59
                            replace H := Option.bind_eq_some_iff.mp H
                            obtain ⟨t186, A600, H⟩ := H
                            replace H : (laws_FnAdded.j2 kj41 t167 (decide (t186 ≤ t167))) = some r := H
                            have A60 := Aside0.mk A600
                            clear A600
                            have H' := Aside0.mk H
                            clear H
                            go_wp2_with (first | (go_at_call 22; (with_reducible refine (impl_BucketOf.calls kj41 t184 t185 _ A57.out).mono ?_); rintro e w61 ⟨rfl, hb⟩; have n0_ := Aside0.mk (below_step (by repeat (first | (with_reducible first | exact HB.out | apply below_alloc | apply pw_below_drewN | apply below_drew1) | exact HB.out)) hb); clear HB; have HB := n0_; clear n0_; (try clear hb); (try clear hb2); (try clear hk); (try clear hi)) | (go_at_call 24; (with_reducible refine (impl_Low.calls (wrap64 (t181 + 1)) t186 _ A60.out).mono ?_); rintro e w' ⟨rfl, ⟨nd, rfl⟩⟩))
                            (first | go_meet | (refine Met.intro ?_; go_step; (repeat apply Exists.intro); refine ⟨?rel, ?eqs⟩; case eqs => ((try rw [show (decide (t167 ≥ 0)) = true from by assumption]); (try rw [show (decide (t167 ≥ 0)) = false from by assumption]); (try rw [show (decide (t167 ≤ 1000000)) = true from by assumption]); (try rw [show (decide (t167 ≤ 1000000)) = false from by assumption]); (try rw [show (decide (t184 > t167)) = true from by assumption]); (try rw [show (decide (t184 > t167)) = false from by assumption]); (try rw [show (t185 != t181) = true from by assumption]); (try rw [show (t185 != t181) = false from by assumption]); (try rw [show (decide ((wrap64 (t181 + 1)) < 8)) = true from by assumption]); (try rw [show (decide ((wrap64 (t181 + 1)) < 8)) = false from by assumption]); (try rw [show (decide (t186 ≤ t167)) = true from by assumption]); (try rw [show (decide (t186 ≤ t167)) = false from by assumption]); (try rfl))))
                            case rel => exact ⟨_, (decide (t186 ≤ t167)), (by first | rfl | (simp; done) | (simp [*]; done)), H', ⟨by have := HJ7.out; have := HJ41.out; first | omega | exact Nat.le_refl _⟩, ⟨by repeat (first | (with_reducible first | exact HB.out | apply below_alloc | apply pw_below_drewN | apply below_drew1) | exact HB.out)⟩⟩
                          · rw [if_neg c59] at H
                            have c59b0 : decide ((wrap64 (t181 + 1)) < 8) = false := decide_eq_false c59
                            (try (have c59b1 : decide ((IntKind.i64.wrap (t181 + 1)) < 8) = false := by simp only [i64_w]; first | exact decide_eq_false c59 | simpa using c59))
                            clear c59
                            have H' := Aside0.mk H
                            clear H
                            go_wp2_with (first | (go_at_call 22; (with_reducible refine (impl_BucketOf.calls kj41 t184 t185 _ A57.out).mono ?_); rintro e w62 ⟨rfl, hb⟩; have n0_ := Aside0.mk (below_step (by repeat (first | (with_reducible first | exact HB.out | apply below_alloc | apply pw_below_drewN | apply below_drew1) | exact HB.out)) hb); clear HB; have HB := n0_; clear n0_; (try clear hb); (try clear hb2); (try clear hk); (try clear hi)))
                            (first | go_meet | (refine Met.intro ?_; go_step; (repeat apply Exists.intro); refine ⟨?rel, ?eqs⟩; case eqs => ((try rw [show (decide (t167 ≥ 0)) = true from by assumption]); (try rw [show (decide (t167 ≥ 0)) = false from by assumption]); (try rw [show (decide (t167 ≤ 1000000)) = true from by assumption]); (try rw [show (decide (t167 ≤ 1000000)) = false from by assumption]); (try rw [show (decide (t184 > t167)) = true from by assumption]); (try rw [show (decide (t184 > t167)) = false from by assumption]); (try rw [show (t185 != t181) = true from by assumption]); (try rw [show (t185 != t181) = false from by assumption]); (try rw [show (decide ((wrap64 (t181 + 1)) < 8)) = true from by assumption]); (try rw [show (decide ((wrap64 (t181 + 1)) < 8)) = false from by assumption]); (try rfl))))
                            case rel => exact ⟨_, (false), (by first | rfl | (simp; done) | (simp [*]; done)), H', ⟨by have := HJ7.out; have := HJ41.out; first | omega | exact Nat.le_refl _⟩, ⟨by repeat (first | (with_reducible first | exact HB.out | apply below_alloc | apply pw_below_drewN | apply below_drew1) | exact HB.out)⟩⟩
                        · rw [if_neg c58] at H
                          have c58b0 : (t185 == t181) = false := beq_eq_false_iff_ne.mpr c58
                          have c58b1 : (t185 != t181) = true := bne_iff_ne.mpr c58
                          have H' := Aside0.mk H
                          clear H
                          go_wp2_with (first | (go_at_call 22; (with_reducible refine (impl_BucketOf.calls kj41 t184 t185 _ A57.out).mono ?_); rintro e w63 ⟨rfl, hb⟩; have n0_ := Aside0.mk (below_step (by repeat (first | (with_reducible first | exact HB.out | apply below_alloc | apply pw_below_drewN | apply below_drew1) | exact HB.out)) hb); clear HB; have HB := n0_; clear n0_; (try clear hb); (try clear hb2); (try clear hk); (try clear hi)))
                          (first | go_meet | (refine Met.intro ?_; go_step; (repeat apply Exists.intro); refine ⟨?rel, ?eqs⟩; case eqs => ((try rw [show (decide (t167 ≥ 0)) = true from by assumption]); (try rw [show (decide (t167 ≥ 0)) = false from by assumption]); (try rw [show (decide (t167 ≤ 1000000)) = true from by assumption]); (try rw [show (decide (t167 ≤ 1000000)) = false from by assumption]); (try rw [show (decide (t184 > t167)) = true from by assumption]); (try rw [show (decide (t184 > t167)) = false from by assumption]); (try rw [show (t185 != t181) = true from by assumption]); (try rw [show (t185 != t181) = false from by assumption]); (try rfl))))
                          case rel => exact ⟨_, (true), (by first | rfl | (simp; done) | (simp [*]; done)), H', ⟨by have := HJ7.out; have := HJ41.out; first | omega | exact Nat.le_refl _⟩, ⟨by repeat (first | (with_reducible first | exact HB.out | apply below_alloc | apply pw_below_drewN | apply below_drew1) | exact HB.out)⟩⟩
                    · rw [if_neg c55] at H
                      have c55b0 : decide (t167 ≤ 1000000) = false := decide_eq_false c55
                      clear c55
                      have H' := Aside0.mk H
                      clear H
                      go_wp2
                      (first | go_meet | (refine Met.intro ?_; go_step; (repeat apply Exists.intro); refine ⟨?rel, ?eqs⟩; case eqs => ((try rw [show (decide (t167 ≥ 0)) = true from by assumption]); (try rw [show (decide (t167 ≥ 0)) = false from by assumption]); (try rw [show (decide (t167 ≤ 1000000)) = true from by assumption]); (try rw [show (decide (t167 ≤ 1000000)) = false from by assumption]); (try rfl))))
                      case rel => exact ⟨_, (false), (by first | rfl | (simp; done) | (simp [*]; done)), H', ⟨by have := HJ7.out; have := HJ41.out; first | omega | exact Nat.le_refl _⟩, ⟨by repeat (first | (with_reducible first | exact HB.out | apply below_alloc | apply pw_below_drewN | apply below_drew1) | exact HB.out)⟩⟩
                  · rw [if_neg c54] at H
                    have c54b0 : decide (0 ≤ t167) = false := decide_eq_false c54
                    clear c54
                    (first | rw [c54b0] | (simp only [i64_w, i32_w]; rw [c54b0]) | rw [c54b1] | rw [c54b2] | rw [c54b3] | skip)
                    have H' := Aside0.mk H
                    clear H
                    go_wp2
                    (first | go_meet | (refine Met.intro ?_; go_step; (repeat apply Exists.intro); refine ⟨?rel, ?eqs⟩; case eqs => ((try rw [show (decide (t167 ≥ 0)) = true from by assumption]); (try rw [show (decide (t167 ≥ 0)) = false from by assumption]); (try rfl))))
                    case rel => exact ⟨_, (false), (by first | rfl | (simp; done) | (simp [*]; done)), H', ⟨by have := HJ7.out; have := HJ41.out; first | omega | exact Nat.le_refl _⟩, ⟨by repeat (first | (with_reducible first | exact HB.out | apply below_alloc | apply pw_below_drewN | apply below_drew1) | exact HB.out)⟩⟩
                case rest =>
                  clear HC53
                  try clear c1
                  try clear c2
                  try clear p2
                  try clear c3
                  try clear c4
                  try clear c5
                  try clear p6
                  try clear c15
                  try clear c15b0
                  try clear c15b1
                  try clear c15b2
                  try clear c17
                  try clear c17b0
                  try clear c17b1
                  try clear c18
                  try clear c19
                  try clear c20
                  try clear c21
                  try clear c22
                  try clear c22b0
                  try clear c22b1
                  try clear c23
                  try clear c23b0
                  try clear c24
                  try clear c40
                  try clear c45
                  try clear c45b0
                  try clear c45b1
                  try clear c45b2
                  try clear c46
                  try clear c46b0
                  try clear c47
                  try clear c47b0
                  try clear c48
                  try clear c48b0
                  try clear c51
                  try clear c54
                  try clear c54b0
                  try clear c54b1
                  try clear c54b2
                  try clear c55
                  try clear c55b0
                  try clear c56
                  try clear c56b0
                  try clear c58
                  try clear c58b0
                  try clear c58b1
                  try clear c59
                  try clear c59b0
                  try clear c59b1
                  try clear p2
                  obtain ⟨kq, x114_52, rfl, HA, HJ52, HB⟩ := hcut
                  cases kq with
                  | zero => exact absurd HA.out (by simp [laws_FnAdded.j2])
                  | succ kj52 =>
                    have H := HA.out
                    clear HA
                    simp only [laws_FnAdded.j2] at H
                    by_cases c64 : x114_52 = true
                    · subst c64
                      have H1 : (some false) = some r := by rw [if_pos rfl] at H; exact H
                      clear H
                      have H := H1
                      clear H1
                      obtain rfl := Option.some.inj H
                      exact absurd hrt.out (by decide)
                    · replace c64 := Bool.eq_false_iff.mpr c64
                      subst c64
                      have H1 : ((impl_RankOf.f t167).bind fun t187 => (if t187 ≥ 1 then ((impl_RankOf.f t167).bind fun t188 => (if t188 ≤ 17 then ((impl_Mix.f t167).bind fun t189 => (if t189 ≥ 0 then ((impl_Mix.f t167).bind fun t190 => (some (decide (t190 < 65536)))) else (some false))) else (some false))) else (some false))) = some r := by rw [if_neg (show ¬ (false = true) by decide)] at H; exact H
                      clear H
                      have H := H1
                      clear H1
                      replace H := Option.bind_eq_some_iff.mp H
                      obtain ⟨t187, A650, H⟩ := H
                      replace H : (if t187 ≥ 1 then ((impl_RankOf.f t167).bind fun t188 => (if t188 ≤ 17 then ((impl_Mix.f t167).bind fun t189 => (if t189 ≥ 0 then ((impl_Mix.f t167).bind fun t190 => (some (decide (t190 < 65536)))) else (some false))) else (some false))) else (some false)) = some r := H
                      have A65 := Aside0.mk A650
                      clear A650
                      by_cases c66 : t187 ≥ 1
                      · rw [if_pos c66] at H
                        have c66b0 : decide (1 ≤ t187) = true := decide_eq_true c66
                        clear c66
                        replace H := Option.bind_eq_some_iff.mp H
                        obtain ⟨t188, A670, H⟩ := H
                        obtain rfl := Option.some.inj (A65.out.symm.trans A670)
                        replace H : (if t187 ≤ 17 then ((impl_Mix.f t167).bind fun t189 => (if t189 ≥ 0 then ((impl_Mix.f t167).bind fun t190 => (some (decide (t190 < 65536)))) else (some false))) else (some false)) = some r := H
                        have A67 := Aside0.mk A670
                        clear A670
                        by_cases c68 : t187 ≤ 17
                        · rw [if_pos c68] at H
                          have c68b0 : decide (t187 ≤ 17) = true := decide_eq_true c68
                          clear c68
                          replace H := Option.bind_eq_some_iff.mp H
                          obtain ⟨t189, A690, H⟩ := H
                          replace H : (if t189 ≥ 0 then ((impl_Mix.f t167).bind fun t190 => (some (decide (t190 < 65536)))) else (some false)) = some r := H
                          have A69 := Aside0.mk A690
                          clear A690
                          by_cases c70 : t189 ≥ 0
                          · rw [if_pos c70] at H
                            have c70b0 : decide (0 ≤ t189) = true := decide_eq_true c70
                            clear c70
                            replace H := Option.bind_eq_some_iff.mp H
                            obtain ⟨t190, A710, H⟩ := H
                            obtain rfl := Option.some.inj (A69.out.symm.trans A710)
                            replace H : (some (decide (t189 < 65536))) = some r := H
                            have A71 := Aside0.mk A710
                            clear A710
                            obtain rfl := Option.some.inj H
                            simp only [Option.some.injEq, Prod.mk.injEq] at H
                            obtain ⟨rfl⟩ := H
                            go_wp2_with (first | ((with_reducible refine gate_callee (f := 16) rfl ?_); refine goesL_ (some 116) rfl rfl Tryd.func16 (by kernel_rfl) rfl #[.int .i64 t167] rfl (by (try simp only [List.map_toArray, List.map_cons, List.map_nil]); first | done | rfl | (simp only [List.length_drop, List.length_take]; rfl)) ?_; (with_reducible refine (impl_RankOf.calls t167 t187 _ ?side1 A65.out).mono ?_); (case side1 => exact Tabs.below HTAB.out (by repeat (first | (with_reducible first | exact HB.out | apply below_alloc | apply pw_below_drewN | apply below_drew1) | exact HB.out))); rintro e w72 ⟨rfl, hb⟩; refine ⟨_, rfl, ?_⟩; have n0_ := Aside0.mk (below_step (by repeat (first | (with_reducible first | exact HB.out | apply below_alloc | apply pw_below_drewN | apply below_drew1) | exact HB.out)) hb); clear HB; have HB := n0_; clear n0_; (try clear hb); (try clear hb2); (try clear hk); (try clear hi)) | (go_at_call 16; (with_reducible refine (impl_RankOf.calls t167 t187 _ ?side1 A67.out).mono ?_); (case side1 => exact Tabs.below HTAB.out (by repeat (first | (with_reducible first | exact HB.out | apply below_alloc | apply pw_below_drewN | apply below_drew1) | exact HB.out))); rintro e w73 ⟨rfl, hb⟩; have n0_ := Aside0.mk (below_step (by repeat (first | (with_reducible first | exact HB.out | apply below_alloc | apply pw_below_drewN | apply below_drew1) | exact HB.out)) hb); clear HB; have HB := n0_; clear n0_; (try clear hb); (try clear hb2); (try clear hk); (try clear hi)) | (go_at_call 25; (with_reducible refine (impl_Mix.calls t167 t189 _ A69.out).mono ?_); rintro e w74 ⟨rfl, hb⟩; have n0_ := Aside0.mk (below_step (by repeat (first | (with_reducible first | exact HB.out | apply below_alloc | apply pw_below_drewN | apply below_drew1) | exact HB.out)) hb); clear HB; have HB := n0_; clear n0_; (try clear hb); (try clear hb2); (try clear hk); (try clear hi)) | (go_at_call 25; (with_reducible refine (impl_Mix.calls t167 t189 _ A71.out).mono ?_); rintro e w75 ⟨rfl, hb⟩; have n0_ := Aside0.mk (below_step (by repeat (first | (with_reducible first | exact HB.out | apply below_alloc | apply pw_below_drewN | apply below_drew1) | exact HB.out)) hb); clear HB; have HB := n0_; clear n0_; (try clear hb); (try clear hb2); (try clear hk); (try clear hi)))
                            go_ret
                            exact ⟨by first | rfl | (simp [errW_none, errW_some] <;> rfl) | (simp [*, errW_none, errW_some] <;> rfl), by repeat (first | (with_reducible first | exact HB.out | apply below_alloc | apply pw_below_drewN | apply below_drew1) | exact HB.out)⟩
                          · rw [if_neg c70] at H
                            have c70b0 : decide (0 ≤ t189) = false := decide_eq_false c70
                            clear c70
                            obtain rfl := Option.some.inj H
                            exact absurd hrt.out (by decide)
                        · rw [if_neg c68] at H
                          have c68b0 : decide (t187 ≤ 17) = false := decide_eq_false c68
                          clear c68
                          obtain rfl := Option.some.inj H
                          exact absurd hrt.out (by decide)
                      · rw [if_neg c66] at H
                        have c66b0 : decide (1 ≤ t187) = false := decide_eq_false c66
                        clear c66
                        obtain rfl := Option.some.inj H
                        exact absurd hrt.out (by decide)
def laws_FnAdded.Pure : Prop := ∀ (l0 : List Int), (l0.length ≤ 9223372036854775807 ∧ ∀ y0_2 ∈ l0, (0 ≤ y0_2 ∧ y0_2 ≤ 255)) → ∃ k, laws_FnAdded.f k l0 = some true

end Go.Proofs.YtkpicmjncfhnmaaDoor.PFnAdded
