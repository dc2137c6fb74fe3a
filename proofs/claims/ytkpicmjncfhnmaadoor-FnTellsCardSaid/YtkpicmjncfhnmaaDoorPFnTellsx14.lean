-- Written by this session's changed copy of the kit's printer (wip/patch_print.py): not the kit's own print.
import Derived.Test.YtkpicmjncfhnmaaDoorPFnTellsx0
import Derived.Test.YtkpicmjncfhnmaaDoorPFnTellsx1
import Derived.Test.YtkpicmjncfhnmaaDoorPFnTellsx5
import Derived.Test.YtkpicmjncfhnmaaDoorPFnTellsx6
import Derived.Test.YtkpicmjncfhnmaaDoorPFnTellsx11
import Derived.Test.YtkpicmjncfhnmaaDoorPFnTellsx12
import Derived.Test.YtkpicmjncfhnmaaDoorPFnTellsx13
namespace Go.Proofs.YtkpicmjncfhnmaaDoor.PFnTells
open Go.RowKit Go.Proofs.YtkpicmjncfhnmaaDoorW.PrintWords Go.Proofs.YtkpicmjncfhnmaaDoorW.PrintLast Go.Proofs.YtkpicmjncfhnmaaDoorW.PrintMore
attribute [local go_sem] max2_int min2_int max_two min_two max_three min_three max_four min_four   -- for this text's walks alone
set_option linter.unusedVariables false
set_option linter.unusedSimpArgs false

mutual
def laws_FnTells.l0 : Nat → List Int → List Int → Int → Int → Int → Int → Int → List Int → List Int → List (List Int) → Option (Bool)
 | 0, _, _, _, _, _, _, _, _, _, _ => none
 | k + 1, x3, x5, x6, x357000, x357001, x357002, x357003, x357004, x357005, x357006 => if x6 < (x3.length : Int) then (if 0 ≤ x6 then (if (rd x3 x6) ≥ 0 then (if (rd x3 x6) ≤ 1000000 then (if x5.length < 17592186044416 then (laws_FnTells.l0 k x3 (x5 ++ [rd x3 x6]) (wrap64 (x6 + 1)) x357000 x357001 x357002 x357003 x357004 x357005 x357006) else (none)) else (laws_FnTells.l0 k x3 x5 (wrap64 (x6 + 1)) x357000 x357001 x357002 x357003 x357004 x357005 x357006)) else (laws_FnTells.l0 k x3 x5 (wrap64 (x6 + 1)) x357000 x357001 x357002 x357003 x357004 x357005 x357006)) else (none)) else (laws_FnTells.l1 k x5 0 0 0 x357000 x357001 x357002 x357003 x357004 x357005 x357006)
def laws_FnTells.l1 : Nat → List Int → Int → Int → Int → Int → Int → Int → Int → List Int → List Int → List (List Int) → Option (Bool)
 | 0, _, _, _, _, _, _, _, _, _, _, _ => none
 | k + 1, x5, x7, x8, x9, x357000, x357001, x357002, x357003, x357004, x357005, x357006 => if x9 < (x5.length : Int) then (if 0 ≤ x9 then (if x9 ≤ (x5.length : Int) then ((laws_times.f k (x5.take (x9 : Int).toNat) (rd x5 x9)).bind fun t386 => (if t386 = 0 then (laws_FnTells.j2 k x5 (wrap64 (x7 + 1)) (wrap64 (x8 + (rd x5 x9))) x9 x357000 x357001 x357002 x357003 x357004 x357005 x357006) else (laws_FnTells.j2 k x5 x7 (wrap64 (x8 + (rd x5 x9))) x9 x357000 x357001 x357002 x357003 x357004 x357005 x357006))) else (none)) else (none)) else ((impl_Different.f k x357000 x357001 x357002 x357003 x357004 x357005 x357006).bind fun t393 => (if t393 > x7 then (laws_FnTells.j3 k x5 x8 true x357000 x357001 x357002 x357003 x357004 x357005 x357006) else ((impl_Different.f k x357000 x357001 x357002 x357003 x357004 x357005 x357006).bind fun t394 => (laws_FnTells.j3 k x5 x8 ((t394 == 0) != ((x5.length : Int) == 0)) x357000 x357001 x357002 x357003 x357004 x357005 x357006))))
def laws_FnTells.j2 : Nat → List Int → Int → Int → Int → Int → Int → Int → Int → List Int → List Int → List (List Int) → Option (Bool)
 | 0, _, _, _, _, _, _, _, _, _, _, _ => none
 | k + 1, x5, x7, x8, x9, x357000, x357001, x357002, x357003, x357004, x357005, x357006 => if 0 ≤ x9 then (if x9 < (x5.length : Int) then ((impl_Often.f k x357000 x357001 x357002 x357003 x357004 x357005 x357006 (rd x5 x9)).bind fun t388 => ((laws_times.f k x5 (rd x5 x9)).bind fun t390 => (if t388 < t390 then (some false) else ((impl_Often.f k x357000 x357001 x357002 x357003 x357004 x357005 x357006 (rd x5 x9)).bind fun t392 => (if t392 > (x5.length : Int) then (some false) else (laws_FnTells.l1 k x5 x7 x8 (wrap64 (x9 + 1)) x357000 x357001 x357002 x357003 x357004 x357005 x357006)))))) else (none)) else (none)
def laws_FnTells.j3 : Nat → List Int → Int → Bool → Int → Int → Int → Int → List Int → List Int → List (List Int) → Option (Bool)
 | 0, _, _, _, _, _, _, _, _, _, _ => none
 | k + 1, x5, x8, x110, x357000, x357001, x357002, x357003, x357004, x357005, x357006 => if x110 = true then (some false) else (if (x5.length : Int) = 0 then (if x357000 = 0 then ((impl_Mean.f k x357000 x357001 x357002 x357003 x357004 x357005 x357006).bind fun t395 => (some (t395 == 0))) else (some false)) else ((impl_Quantile.f k x357000 x357001 x357002 x357003 x357004 x357005 x357006 1000).bind fun bt396 => (if bt396.1 > x357003 then (laws_FnTells.j4 k x5 x8 true x357000 x357001 x357002 x357003 x357004 x357005 x357006) else (laws_FnTells.j4 k x5 x8 (decide (bt396.2 < x357003)) x357000 x357001 x357002 x357003 x357004 x357005 x357006))))
def laws_FnTells.j4 : Nat → List Int → Int → Bool → Int → Int → Int → Int → List Int → List Int → List (List Int) → Option (Bool)
 | 0, _, _, _, _, _, _, _, _, _, _ => none
 | k + 1, x5, x8, x136, x357000, x357001, x357002, x357003, x357004, x357005, x357006 => if x136 = true then (some false) else ((impl_Quantile.f k x357000 x357001 x357002 x357003 x357004 x357005 x357006 1).bind fun bt398 => (if bt398.1 ≤ x357002 then (if bt398.2 ≥ x357002 then ((impl_Mean.f k x357000 x357001 x357002 x357003 x357004 x357005 x357006).bind fun t400 => (if (x5.length : Int) = 0 then (none) else (some (t400 == (wrap64 (Int.tdiv x8 (x5.length : Int))))))) else (some false)) else (some false)))
end
def laws_FnTells.f (k : Nat) (l0 : List Int) : Option (Bool) := (laws_big.f l0).bind fun t339 => (if t339 = true then (some true) else ((spec_DrawSketched.f k l0).bind fun t340 => ((impl_Sketched.f k t340).bind fun bt343 => ((spec_Sketched.f k t340).bind fun bt357 => ((impl_SketchSame.f k bt343.1 bt343.2.1 bt343.2.2.1 bt343.2.2.2.1 bt343.2.2.2.2.1 bt343.2.2.2.2.2.1 bt343.2.2.2.2.2.2 bt357.1 bt357.2.1 bt357.2.2.1 bt357.2.2.2.1 bt357.2.2.2.2.1 bt357.2.2.2.2.2.1 bt357.2.2.2.2.2.2).bind fun t370 => (if t370 = true then (laws_FnTells.l0 k t340 (([] : List Int)) 0 bt343.1 bt343.2.1 bt343.2.2.1 bt343.2.2.2.1 bt343.2.2.2.2.1 bt343.2.2.2.2.2.1 bt343.2.2.2.2.2.2) else (some false)))))))
theorem laws_FnTells.mono_l : ∀ k, (∀ y0 y1 y2 y3 y4 y5 y6 y7 y8 y9, LeO (laws_FnTells.l0 k y0 y1 y2 y3 y4 y5 y6 y7 y8 y9) (laws_FnTells.l0 (k + 1) y0 y1 y2 y3 y4 y5 y6 y7 y8 y9)) ∧ (∀ y0 y1 y2 y3 y4 y5 y6 y7 y8 y9 y10, LeO (laws_FnTells.l1 k y0 y1 y2 y3 y4 y5 y6 y7 y8 y9 y10) (laws_FnTells.l1 (k + 1) y0 y1 y2 y3 y4 y5 y6 y7 y8 y9 y10)) ∧ (∀ y0 y1 y2 y3 y4 y5 y6 y7 y8 y9 y10, LeO (laws_FnTells.j2 k y0 y1 y2 y3 y4 y5 y6 y7 y8 y9 y10) (laws_FnTells.j2 (k + 1) y0 y1 y2 y3 y4 y5 y6 y7 y8 y9 y10)) ∧ (∀ y0 y1 y2 y3 y4 y5 y6 y7 y8 y9, LeO (laws_FnTells.j3 k y0 y1 y2 y3 y4 y5 y6 y7 y8 y9) (laws_FnTells.j3 (k + 1) y0 y1 y2 y3 y4 y5 y6 y7 y8 y9)) ∧ (∀ y0 y1 y2 y3 y4 y5 y6 y7 y8 y9, LeO (laws_FnTells.j4 k y0 y1 y2 y3 y4 y5 y6 y7 y8 y9) (laws_FnTells.j4 (k + 1) y0 y1 y2 y3 y4 y5 y6 y7 y8 y9))
 | 0 => ⟨fun _ _ _ _ _ _ _ _ _ _ r h => by simp [laws_FnTells.l0] at h, fun _ _ _ _ _ _ _ _ _ _ _ r h => by simp [laws_FnTells.l1] at h, fun _ _ _ _ _ _ _ _ _ _ _ r h => by simp [laws_FnTells.j2] at h, fun _ _ _ _ _ _ _ _ _ _ r h => by simp [laws_FnTells.j3] at h, fun _ _ _ _ _ _ _ _ _ _ r h => by simp [laws_FnTells.j4] at h⟩
 | k + 1 => by
  obtain ⟨ih0, ih1, ih2, ih3, ih4⟩ := laws_FnTells.mono_l k
  refine ⟨?_, ?_, ?_, ?_, ?_⟩
  ·intro y0 y1 y2 y3 y4 y5 y6 y7 y8 y9
   unfold laws_FnTells.l0
   repeat' first
   | (with_reducible exact ih0 _ _ _ _ _ _ _ _ _ _)
   | (with_reducible exact ih1 _ _ _ _ _ _ _ _ _ _ _)
   | (with_reducible exact ih2 _ _ _ _ _ _ _ _ _ _ _)
   | (with_reducible exact ih3 _ _ _ _ _ _ _ _ _ _)
   | (with_reducible exact ih4 _ _ _ _ _ _ _ _ _ _)
   | (with_reducible exact impl_Different.mono _ _ _ _ _ _ _ _)
   | (with_reducible exact impl_Mean.mono _ _ _ _ _ _ _ _)
   | (with_reducible exact impl_Often.mono _ _ _ _ _ _ _ _ _)
   | (with_reducible exact impl_Quantile.mono _ _ _ _ _ _ _ _ _)
   | (with_reducible exact impl_SketchSame.mono _ _ _ _ _ _ _ _ _ _ _ _ _ _ _)
   | (with_reducible exact impl_Sketched.mono _ _)
   | (with_reducible exact laws_times.mono _ _ _)
   | (with_reducible exact spec_DrawSketched.mono _ _)
   | (with_reducible exact spec_Sketched.mono _ _)
   | (with_reducible exact LeO.refl _)
   | (with_reducible exact LeO.none _)
   | (with_reducible refine LeO.ite ?_ ?_)
   | (with_reducible refine LeO.bind ?_ (fun _ => ?_))
   | exact ih0 _ _ _ _ _ _ _ _ _ _
   | exact ih1 _ _ _ _ _ _ _ _ _ _ _
   | exact ih2 _ _ _ _ _ _ _ _ _ _ _
   | exact ih3 _ _ _ _ _ _ _ _ _ _
   | exact ih4 _ _ _ _ _ _ _ _ _ _
   | exact impl_Different.mono _ _ _ _ _ _ _ _
   | exact impl_Mean.mono _ _ _ _ _ _ _ _
   | exact impl_Often.mono _ _ _ _ _ _ _ _ _
   | exact impl_Quantile.mono _ _ _ _ _ _ _ _ _
   | exact impl_SketchSame.mono _ _ _ _ _ _ _ _ _ _ _ _ _ _ _
   | exact impl_Sketched.mono _ _
   | exact laws_times.mono _ _ _
   | exact spec_DrawSketched.mono _ _
   | exact spec_Sketched.mono _ _
   | exact LeO.none _
   | refine LeO.ite ?_ ?_
   | refine LeO.bind ?_ (fun _ => ?_)
  ·intro y0 y1 y2 y3 y4 y5 y6 y7 y8 y9 y10
   unfold laws_FnTells.l1
   repeat' first
   | (with_reducible exact ih0 _ _ _ _ _ _ _ _ _ _)
   | (with_reducible exact ih1 _ _ _ _ _ _ _ _ _ _ _)
   | (with_reducible exact ih2 _ _ _ _ _ _ _ _ _ _ _)
   | (with_reducible exact ih3 _ _ _ _ _ _ _ _ _ _)
   | (with_reducible exact ih4 _ _ _ _ _ _ _ _ _ _)
   | (with_reducible exact impl_Different.mono _ _ _ _ _ _ _ _)
   | (with_reducible exact impl_Mean.mono _ _ _ _ _ _ _ _)
   | (with_reducible exact impl_Often.mono _ _ _ _ _ _ _ _ _)
   | (with_reducible exact impl_Quantile.mono _ _ _ _ _ _ _ _ _)
   | (with_reducible exact impl_SketchSame.mono _ _ _ _ _ _ _ _ _ _ _ _ _ _ _)
   | (with_reducible exact impl_Sketched.mono _ _)
   | (with_reducible exact laws_times.mono _ _ _)
   | (with_reducible exact spec_DrawSketched.mono _ _)
   | (with_reducible exact spec_Sketched.mono _ _)
   | (with_reducible exact LeO.refl _)
   | (with_reducible exact LeO.none _)
   | (with_reducible refine LeO.ite ?_ ?_)
   | (with_reducible refine LeO.bind ?_ (fun _ => ?_))
   | exact ih0 _ _ _ _ _ _ _ _ _ _
   | exact ih1 _ _ _ _ _ _ _ _ _ _ _
   | exact ih2 _ _ _ _ _ _ _ _ _ _ _
   | exact ih3 _ _ _ _ _ _ _ _ _ _
   | exact ih4 _ _ _ _ _ _ _ _ _ _
   | exact impl_Different.mono _ _ _ _ _ _ _ _
   | exact impl_Mean.mono _ _ _ _ _ _ _ _
   | exact impl_Often.mono _ _ _ _ _ _ _ _ _
   | exact impl_Quantile.mono _ _ _ _ _ _ _ _ _
   | exact impl_SketchSame.mono _ _ _ _ _ _ _ _ _ _ _ _ _ _ _
   | exact impl_Sketched.mono _ _
   | exact laws_times.mono _ _ _
   | exact spec_DrawSketched.mono _ _
   | exact spec_Sketched.mono _ _
   | exact LeO.none _
   | refine LeO.ite ?_ ?_
   | refine LeO.bind ?_ (fun _ => ?_)
  ·intro y0 y1 y2 y3 y4 y5 y6 y7 y8 y9 y10
   unfold laws_FnTells.j2
   repeat' first
   | (with_reducible exact ih0 _ _ _ _ _ _ _ _ _ _)
   | (with_reducible exact ih1 _ _ _ _ _ _ _ _ _ _ _)
   | (with_reducible exact ih2 _ _ _ _ _ _ _ _ _ _ _)
   | (with_reducible exact ih3 _ _ _ _ _ _ _ _ _ _)
   | (with_reducible exact ih4 _ _ _ _ _ _ _ _ _ _)
   | (with_reducible exact impl_Different.mono _ _ _ _ _ _ _ _)
   | (with_reducible exact impl_Mean.mono _ _ _ _ _ _ _ _)
   | (with_reducible exact impl_Often.mono _ _ _ _ _ _ _ _ _)
   | (with_reducible exact impl_Quantile.mono _ _ _ _ _ _ _ _ _)
   | (with_reducible exact impl_SketchSame.mono _ _ _ _ _ _ _ _ _ _ _ _ _ _ _)
   | (with_reducible exact impl_Sketched.mono _ _)
   | (with_reducible exact laws_times.mono _ _ _)
   | (with_reducible exact spec_DrawSketched.mono _ _)
   | (with_reducible exact spec_Sketched.mono _ _)
   | (with_reducible exact LeO.refl _)
   | (with_reducible exact LeO.none _)
   | (with_reducible refine LeO.ite ?_ ?_)
   | (with_reducible refine LeO.bind ?_ (fun _ => ?_))
   | exact ih0 _ _ _ _ _ _ _ _ _ _
   | exact ih1 _ _ _ _ _ _ _ _ _ _ _
   | exact ih2 _ _ _ _ _ _ _ _ _ _ _
   | exact ih3 _ _ _ _ _ _ _ _ _ _
   | exact ih4 _ _ _ _ _ _ _ _ _ _
   | exact impl_Different.mono _ _ _ _ _ _ _ _
   | exact impl_Mean.mono _ _ _ _ _ _ _ _
   | exact impl_Often.mono _ _ _ _ _ _ _ _ _
   | exact impl_Quantile.mono _ _ _ _ _ _ _ _ _
   | exact impl_SketchSame.mono _ _ _ _ _ _ _ _ _ _ _ _ _ _ _
   | exact impl_Sketched.mono _ _
   | exact laws_times.mono _ _ _
   | exact spec_DrawSketched.mono _ _
   | exact spec_Sketched.mono _ _
   | exact LeO.none _
   | refine LeO.ite ?_ ?_
   | refine LeO.bind ?_ (fun _ => ?_)
  ·intro y0 y1 y2 y3 y4 y5 y6 y7 y8 y9
   unfold laws_FnTells.j3
   repeat' first
   | (with_reducible exact ih0 _ _ _ _ _ _ _ _ _ _)
   | (with_reducible exact ih1 _ _ _ _ _ _ _ _ _ _ _)
   | (with_reducible exact ih2 _ _ _ _ _ _ _ _ _ _ _)
   | (with_reducible exact ih3 _ _ _ _ _ _ _ _ _ _)
   | (with_reducible exact ih4 _ _ _ _ _ _ _ _ _ _)
   | (with_reducible exact impl_Different.mono _ _ _ _ _ _ _ _)
   | (with_reducible exact impl_Mean.mono _ _ _ _ _ _ _ _)
   | (with_reducible exact impl_Often.mono _ _ _ _ _ _ _ _ _)
   | (with_reducible exact impl_Quantile.mono _ _ _ _ _ _ _ _ _)
   | (with_reducible exact impl_SketchSame.mono _ _ _ _ _ _ _ _ _ _ _ _ _ _ _)
   | (with_reducible exact impl_Sketched.mono _ _)
   | (with_reducible exact laws_times.mono _ _ _)
   | (with_reducible exact spec_DrawSketched.mono _ _)
   | (with_reducible exact spec_Sketched.mono _ _)
   | (with_reducible exact LeO.refl _)
   | (with_reducible exact LeO.none _)
   | (with_reducible refine LeO.ite ?_ ?_)
   | (with_reducible refine LeO.bind ?_ (fun _ => ?_))
   | exact ih0 _ _ _ _ _ _ _ _ _ _
   | exact ih1 _ _ _ _ _ _ _ _ _ _ _
   | exact ih2 _ _ _ _ _ _ _ _ _ _ _
   | exact ih3 _ _ _ _ _ _ _ _ _ _
   | exact ih4 _ _ _ _ _ _ _ _ _ _
   | exact impl_Different.mono _ _ _ _ _ _ _ _
   | exact impl_Mean.mono _ _ _ _ _ _ _ _
   | exact impl_Often.mono _ _ _ _ _ _ _ _ _
   | exact impl_Quantile.mono _ _ _ _ _ _ _ _ _
   | exact impl_SketchSame.mono _ _ _ _ _ _ _ _ _ _ _ _ _ _ _
   | exact impl_Sketched.mono _ _
   | exact laws_times.mono _ _ _
   | exact spec_DrawSketched.mono _ _
   | exact spec_Sketched.mono _ _
   | exact LeO.none _
   | refine LeO.ite ?_ ?_
   | refine LeO.bind ?_ (fun _ => ?_)
  ·intro y0 y1 y2 y3 y4 y5 y6 y7 y8 y9
   unfold laws_FnTells.j4
   repeat' first
   | (with_reducible exact ih0 _ _ _ _ _ _ _ _ _ _)
   | (with_reducible exact ih1 _ _ _ _ _ _ _ _ _ _ _)
   | (with_reducible exact ih2 _ _ _ _ _ _ _ _ _ _ _)
   | (with_reducible exact ih3 _ _ _ _ _ _ _ _ _ _)
   | (with_reducible exact ih4 _ _ _ _ _ _ _ _ _ _)
   | (with_reducible exact impl_Different.mono _ _ _ _ _ _ _ _)
   | (with_reducible exact impl_Mean.mono _ _ _ _ _ _ _ _)
   | (with_reducible exact impl_Often.mono _ _ _ _ _ _ _ _ _)
   | (with_reducible exact impl_Quantile.mono _ _ _ _ _ _ _ _ _)
   | (with_reducible exact impl_SketchSame.mono _ _ _ _ _ _ _ _ _ _ _ _ _ _ _)
   | (with_reducible exact impl_Sketched.mono _ _)
   | (with_reducible exact laws_times.mono _ _ _)
   | (with_reducible exact spec_DrawSketched.mono _ _)
   | (with_reducible exact spec_Sketched.mono _ _)
   | (with_reducible exact LeO.refl _)
   | (with_reducible exact LeO.none _)
   | (with_reducible refine LeO.ite ?_ ?_)
   | (with_reducible refine LeO.bind ?_ (fun _ => ?_))
   | exact ih0 _ _ _ _ _ _ _ _ _ _
   | exact ih1 _ _ _ _ _ _ _ _ _ _ _
   | exact ih2 _ _ _ _ _ _ _ _ _ _ _
   | exact ih3 _ _ _ _ _ _ _ _ _ _
   | exact ih4 _ _ _ _ _ _ _ _ _ _
   | exact impl_Different.mono _ _ _ _ _ _ _ _
   | exact impl_Mean.mono _ _ _ _ _ _ _ _
   | exact impl_Often.mono _ _ _ _ _ _ _ _ _
   | exact impl_Quantile.mono _ _ _ _ _ _ _ _ _
   | exact impl_SketchSame.mono _ _ _ _ _ _ _ _ _ _ _ _ _ _ _
   | exact impl_Sketched.mono _ _
   | exact laws_times.mono _ _ _
   | exact spec_DrawSketched.mono _ _
   | exact spec_Sketched.mono _ _
   | exact LeO.none _
   | refine LeO.ite ?_ ?_
   | refine LeO.bind ?_ (fun _ => ?_)
theorem laws_FnTells.mono : ∀ a0 k, LeO (laws_FnTells.f k a0) (laws_FnTells.f (k + 1) a0) := by
 intro a0 k
 obtain ⟨ih0, ih1, ih2, ih3, ih4⟩ := laws_FnTells.mono_l k
 unfold laws_FnTells.f
 repeat' first
   | (with_reducible exact ih0 _ _ _ _ _ _ _ _ _ _)
   | (with_reducible exact ih1 _ _ _ _ _ _ _ _ _ _ _)
   | (with_reducible exact ih2 _ _ _ _ _ _ _ _ _ _ _)
   | (with_reducible exact ih3 _ _ _ _ _ _ _ _ _ _)
   | (with_reducible exact ih4 _ _ _ _ _ _ _ _ _ _)
   | (with_reducible exact impl_Different.mono _ _ _ _ _ _ _ _)
   | (with_reducible exact impl_Mean.mono _ _ _ _ _ _ _ _)
   | (with_reducible exact impl_Often.mono _ _ _ _ _ _ _ _ _)
   | (with_reducible exact impl_Quantile.mono _ _ _ _ _ _ _ _ _)
   | (with_reducible exact impl_SketchSame.mono _ _ _ _ _ _ _ _ _ _ _ _ _ _ _)
   | (with_reducible exact impl_Sketched.mono _ _)
   | (with_reducible exact laws_times.mono _ _ _)
   | (with_reducible exact spec_DrawSketched.mono _ _)
   | (with_reducible exact spec_Sketched.mono _ _)
   | (with_reducible exact LeO.refl _)
   | (with_reducible exact LeO.none _)
   | (with_reducible refine LeO.ite ?_ ?_)
   | (with_reducible refine LeO.bind ?_ (fun _ => ?_))
   | exact ih0 _ _ _ _ _ _ _ _ _ _
   | exact ih1 _ _ _ _ _ _ _ _ _ _ _
   | exact ih2 _ _ _ _ _ _ _ _ _ _ _
   | exact ih3 _ _ _ _ _ _ _ _ _ _
   | exact ih4 _ _ _ _ _ _ _ _ _ _
   | exact impl_Different.mono _ _ _ _ _ _ _ _
   | exact impl_Mean.mono _ _ _ _ _ _ _ _
   | exact impl_Often.mono _ _ _ _ _ _ _ _ _
   | exact impl_Quantile.mono _ _ _ _ _ _ _ _ _
   | exact impl_SketchSame.mono _ _ _ _ _ _ _ _ _ _ _ _ _ _ _
   | exact impl_Sketched.mono _ _
   | exact laws_times.mono _ _ _
   | exact spec_DrawSketched.mono _ _
   | exact spec_Sketched.mono _ _
   | exact LeO.none _
   | refine LeO.ite ?_ ?_
   | refine LeO.bind ?_ (fun _ => ?_)
def laws_FnTells.T19 : Bool × List (List Nat × List Nat) := (true, [([], []), ([], []), ([0, 1], [0, 1]), ([], []), ([], []), ([3, 4], [3, 4]), ([5], [5]), ([2, 6], [2, 6]), ([7], [7])])
def laws_FnTells.B19 : List Nat := [0, 0, 3, 0, 0, 24, 56, 127, 255]
theorem laws_FnTells.tab19 : rtab .any (opsOf Tryd.f12 19) = laws_FnTells.T19 := by kernel_rfl
theorem laws_FnTells.bits19 : waitsOk laws_FnTells.T19.2 laws_FnTells.B19 = true := by kernel_rfl
def laws_FnTells.T21 : Bool × List (List Nat × List Nat) := (true, [([], []), ([], []), ([], []), ([1, 2], [1, 2]), ([3], [3]), ([0, 4], [0, 4]), ([], []), ([], []), ([], []), ([7, 8], [7, 8]), ([9], [9]), ([6, 10, 5], [6, 10]), ([5, 11], [5, 11]), ([12, 11], [12]), ([13], [13]), ([13], [13]), ([13], [13]), ([15, 16, 13], [13, 15, 16]), ([17, 13], [13, 17]), ([14, 18, 13, 13], [13, 14, 18]), ([13], [13]), ([20, 13], [13, 20]), ([19, 21, 13], [13, 19, 21]), ([13, 22], [13, 22])])
def laws_FnTells.B21 : List Nat := [0, 0, 0, 6, 14, 31, 0, 0, 0, 384, 896, 2047, 4095, 8191, 16383, 16383, 16383, 114687, 245759, 524287, 16383, 1064959, 4194303, 8388607]
theorem laws_FnTells.tab21 : rtab .any (opsOf Tryd.f12 21) = laws_FnTells.T21 := by kernel_rfl
theorem laws_FnTells.bits21 : waitsOk laws_FnTells.T21.2 laws_FnTells.B21 = true := by kernel_rfl
def laws_FnTells.T31 : Bool × List (List Nat × List Nat) := (true, [([], []), ([], []), ([1], [1]), ([0, 2], [0, 2]), ([3], [3]), ([4], [4]), ([4], [4]), ([6, 4], [4, 6]), ([5, 7, 4], [4, 5, 7]), ([4, 8], [4, 8]), ([9, 4], [9]), ([10], [10]), ([11, 10, 10], [10, 11]), ([10], [10]), ([10], [10]), ([14, 10], [10, 14]), ([13, 15, 10], [10, 13, 15]), ([12, 16, 10], [10, 12, 16]), ([10, 17], [10, 17]), ([18, 12, 0, 1, 2, 3, 4, 5, 6, 7, 8, 9, 10, 11, 12, 13, 14, 15, 16, 17, 18], [18])])
def laws_FnTells.B31 : List Nat := [0, 0, 2, 7, 15, 31, 31, 95, 255, 511, 1023, 2047, 4095, 2047, 2047, 18431, 59391, 131071, 262143, 524287]
theorem laws_FnTells.tab31 : rtab .any (opsOf Tryd.f12 31) = laws_FnTells.T31 := by kernel_rfl
theorem laws_FnTells.bits31 : waitsOk laws_FnTells.T31.2 laws_FnTells.B31 = true := by kernel_rfl
set_option maxHeartbeats 8000000 in
set_option maxRecDepth 100000 in
theorem laws_FnTells.calls (k : Nat) (A0 : Option Addr) (c0 : Nat) (l0 : List Int) (r : Bool) (w : World) (hT : Tabs w) (hr0 : Kd.C (Kd.int .u8) w A0 l0.length l0) (hc0 : l0.length ≤ c0) (hrt : Aside0 (r = true)) (h : laws_FnTells.f k l0 = some r) :
  Calls Tryd.prog 12 #[.slice A0 l0.length c0] w fun e w' => e = .returned (.bool r) ∧ Below w.heap.size w w' := by
 have hu43 := Tryd.underlying43
 have HR0 := Aside0.mk hr0
 have HC0 := Aside0.mk hc0
 clear hr0 hc0
 have HB := Aside0.mk (Below.refl w.heap.size w)
 have HTAB := Aside0.mk hT
 clear hT
 have H : ((laws_big.f l0).bind fun t339 => (if t339 = true then (some true) else ((spec_DrawSketched.f k l0).bind fun t340 => ((impl_Sketched.f k t340).bind fun bt343 => ((spec_Sketched.f k t340).bind fun bt357 => ((impl_SketchSame.f k bt343.1 bt343.2.1 bt343.2.2.1 bt343.2.2.2.1 bt343.2.2.2.2.1 bt343.2.2.2.2.2.1 bt343.2.2.2.2.2.2 bt357.1 bt357.2.1 bt357.2.2.1 bt357.2.2.2.1 bt357.2.2.2.2.1 bt357.2.2.2.2.2.1 bt357.2.2.2.2.2.2).bind fun t370 => (if t370 = true then (laws_FnTells.l0 k t340 (([] : List Int)) 0 bt343.1 bt343.2.1 bt343.2.2.1 bt343.2.2.2.1 bt343.2.2.2.2.1 bt343.2.2.2.2.2.1 bt343.2.2.2.2.2.2) else (some false)))))))) = some r := h
 clear h
 replace H := Option.bind_eq_some_iff.mp H
 obtain ⟨t339, A20, H⟩ := H
 replace H : (if t339 = true then (some true) else ((spec_DrawSketched.f k l0).bind fun t340 => ((impl_Sketched.f k t340).bind fun bt343 => ((spec_Sketched.f k t340).bind fun bt357 => ((impl_SketchSame.f k bt343.1 bt343.2.1 bt343.2.2.1 bt343.2.2.2.1 bt343.2.2.2.2.1 bt343.2.2.2.2.2.1 bt343.2.2.2.2.2.2 bt357.1 bt357.2.1 bt357.2.2.1 bt357.2.2.2.1 bt357.2.2.2.2.1 bt357.2.2.2.2.2.1 bt357.2.2.2.2.2.2).bind fun t370 => (if t370 = true then (laws_FnTells.l0 k t340 (([] : List Int)) 0 bt343.1 bt343.2.1 bt343.2.2.1 bt343.2.2.2.1 bt343.2.2.2.2.1 bt343.2.2.2.2.2.1 bt343.2.2.2.2.2.2) else (some false))))))) = some r := H
 have A2 := Aside0.mk A20
 clear A20
 by_cases c3 : t339 = true
 ·subst c3
  have H1 : (some true) = some r := by rw [if_pos rfl] at H; exact H
  clear H
  have H := H1
  clear H1
  obtain rfl := Option.some.inj H
  simp only [Option.some.injEq, Prod.mk.injEq] at H
  obtain ⟨rfl⟩ := H
  go_enter Tryd.func12, Tryd.ntmps12
  go_wp2_with (first | ((with_reducible refine gate_callee (f := 17) rfl ?_); refine goesL_ (some 15) rfl rfl Tryd.func17 (by kernel_rfl) rfl #[.slice A0 l0.length c0] rfl (by (try simp only [List.map_toArray, List.map_cons, List.map_nil]); first | done | rfl | (simp only [List.length_drop, List.length_take]; rfl)) ?_; (with_reducible refine (laws_big.calls _ _ l0 true _ ?side1 ?side2 A2.out).mono ?_); (case side1 => repeat (first | exact HR0.out | (with_reducible refine Kd.C_alloc ?_ _) | (with_reducible refine Kd.C_drewN ?_ _) | (with_reducible refine Kd.C_drew ?_))); (case side2 => exact HC0.out); rintro e w' ⟨rfl, ⟨nd, rfl⟩⟩; refine ⟨_, rfl, ?_⟩))
  go_ret
  exact ⟨by first | rfl | (simp [errW_none, errW_some] <;> rfl) | (simp [*, errW_none, errW_some] <;> rfl), by repeat (first | (with_reducible first | exact HB.out | apply below_alloc | apply pw_below_drewN | apply below_drew1) | exact HB.out)⟩
 ·replace c3 := Bool.eq_false_iff.mpr c3
  subst c3
  have H1 : ((spec_DrawSketched.f k l0).bind fun t340 => ((impl_Sketched.f k t340).bind fun bt343 => ((spec_Sketched.f k t340).bind fun bt357 => ((impl_SketchSame.f k bt343.1 bt343.2.1 bt343.2.2.1 bt343.2.2.2.1 bt343.2.2.2.2.1 bt343.2.2.2.2.2.1 bt343.2.2.2.2.2.2 bt357.1 bt357.2.1 bt357.2.2.1 bt357.2.2.2.1 bt357.2.2.2.2.1 bt357.2.2.2.2.2.1 bt357.2.2.2.2.2.2).bind fun t370 => (if t370 = true then (laws_FnTells.l0 k t340 (([] : List Int)) 0 bt343.1 bt343.2.1 bt343.2.2.1 bt343.2.2.2.1 bt343.2.2.2.2.1 bt343.2.2.2.2.2.1 bt343.2.2.2.2.2.2) else (some false)))))) = some r := by rw [if_neg (show ¬ (false = true) by decide)] at H; exact H
  clear H
  have H := H1
  clear H1
  replace H := Option.bind_eq_some_iff.mp H
  obtain ⟨t340, A40, H⟩ := H
  replace H : ((impl_Sketched.f k t340).bind fun bt343 => ((spec_Sketched.f k t340).bind fun bt357 => ((impl_SketchSame.f k bt343.1 bt343.2.1 bt343.2.2.1 bt343.2.2.2.1 bt343.2.2.2.2.1 bt343.2.2.2.2.2.1 bt343.2.2.2.2.2.2 bt357.1 bt357.2.1 bt357.2.2.1 bt357.2.2.2.1 bt357.2.2.2.2.1 bt357.2.2.2.2.2.1 bt357.2.2.2.2.2.2).bind fun t370 => (if t370 = true then (laws_FnTells.l0 k t340 (([] : List Int)) 0 bt343.1 bt343.2.1 bt343.2.2.1 bt343.2.2.2.1 bt343.2.2.2.2.1 bt343.2.2.2.2.2.1 bt343.2.2.2.2.2.2) else (some false))))) = some r := H
  have A4 := Aside0.mk A40
  clear A40
  replace H := Option.bind_eq_some_iff.mp H
  obtain ⟨⟨t343, t344, t345, t346, t347, t350, t353⟩, A50, H⟩ := H
  replace H : ((spec_Sketched.f k t340).bind fun bt357 => ((impl_SketchSame.f k t343 t344 t345 t346 t347 t350 t353 bt357.1 bt357.2.1 bt357.2.2.1 bt357.2.2.2.1 bt357.2.2.2.2.1 bt357.2.2.2.2.2.1 bt357.2.2.2.2.2.2).bind fun t370 => (if t370 = true then (laws_FnTells.l0 k t340 (([] : List Int)) 0 t343 t344 t345 t346 t347 t350 t353) else (some false)))) = some r := H
  have A5 := Aside0.mk A50
  clear A50
  replace H := Option.bind_eq_some_iff.mp H
  obtain ⟨⟨t357, t358, t359, t360, t361, t364, t367⟩, A60, H⟩ := H
  replace H : ((impl_SketchSame.f k t343 t344 t345 t346 t347 t350 t353 t357 t358 t359 t360 t361 t364 t367).bind fun t370 => (if t370 = true then (laws_FnTells.l0 k t340 (([] : List Int)) 0 t343 t344 t345 t346 t347 t350 t353) else (some false))) = some r := H
  have A6 := Aside0.mk A60
  clear A60
  replace H := Option.bind_eq_some_iff.mp H
  obtain ⟨t370, A70, H⟩ := H
  replace H : (if t370 = true then (laws_FnTells.l0 k t340 (([] : List Int)) 0 t343 t344 t345 t346 t347 t350 t353) else (some false)) = some r := H
  have A7 := Aside0.mk A70
  clear A70
  by_cases c8 : t370 = true
  ·subst c8
   have H1 : (laws_FnTells.l0 k t340 (([] : List Int)) 0 t343 t344 t345 t346 t347 t350 t353) = some r := by rw [if_pos rfl] at H; exact H
   clear H
   have H := H1
   clear H1
   obtain ⟨y371, hy371⟩ : ∃ y_ : List Int, y_ = (([] : List Int)) := ⟨_, rfl⟩
   replace H : (laws_FnTells.l0 k t340 y371 0 t343 t344 t345 t346 t347 t350 t353) = some r := by first | (rw [hy371]; with_reducible exact H) | (have H2_ := (Option.bind_some _ _).symm.trans H; rw [hy371]; with_reducible exact H2_) | (have H2_ := (Option.bind_some _ _).symm.trans H; with_reducible exact H2_) | with_reducible exact H | (rw [hy371]; exact H) | exact H
   have Ny371 := Aside0.mk hy371
   clear hy371
   have H' := Aside0.mk H
   clear H
   go_enter Tryd.func12, Tryd.ntmps12
   try go_wp2_with (first | ((with_reducible refine gate_callee (f := 17) rfl ?_); refine goesL_ (some 15) rfl rfl Tryd.func17 (by kernel_rfl) rfl #[.slice A0 l0.length c0] rfl (by (try simp only [List.map_toArray, List.map_cons, List.map_nil]); first | done | rfl | (simp only [List.length_drop, List.length_take]; rfl)) ?_; (with_reducible refine (laws_big.calls _ _ l0 false _ ?side1 ?side2 A2.out).mono ?_); (case side1 => repeat (first | exact HR0.out | (with_reducible refine Kd.C_alloc ?_ _) | (with_reducible refine Kd.C_drewN ?_ _) | (with_reducible refine Kd.C_drew ?_))); (case side2 => exact HC0.out); rintro e w' ⟨rfl, ⟨nd, rfl⟩⟩; refine ⟨_, rfl, ?_⟩) | ((with_reducible refine gate_callee (f := 35) rfl ?_); refine goesL_ (some 17) rfl rfl Tryd.func35 (by kernel_rfl) rfl #[.slice A0 l0.length c0] rfl (by (try simp only [List.map_toArray, List.map_cons, List.map_nil]); first | done | rfl | (simp only [List.length_drop, List.length_take]; rfl)) ?_; (with_reducible refine (spec_DrawSketched.calls k _ _ l0 t340 _ ?side1 ?side2 A4.out).mono ?_); (case side1 => repeat (first | exact HR0.out | (with_reducible refine Kd.C_alloc ?_ _) | (with_reducible refine Kd.C_drewN ?_ _) | (with_reducible refine Kd.C_drew ?_))); (case side2 => exact HC0.out); rintro e w9 ⟨v341, rfl, ho0, hb⟩; refine ⟨_, rfl, ?_⟩; have n0_ := Aside0.mk (Kd.R_lower ho0 (below_size (by repeat (first | (with_reducible first | exact HB.out | apply below_alloc | apply pw_below_drewN | apply below_drew1) | exact HB.out)))); have n1_ := Aside0.mk (below_step (by repeat (first | (with_reducible first | exact HB.out | apply below_alloc | apply pw_below_drewN | apply below_drew1) | exact HB.out)) hb); clear HB; have HO342 := n0_; have HB := n1_; clear n0_ n1_; (try clear hb); (try clear hb2); (try clear hk); (try clear hi); (try clear ho0); obtain ⟨Ao10, co10, eo10⟩ := Kd.R_slice HO342.out; subst eo10) | ((with_reducible refine gate_callee (f := 36) rfl ?_); refine goesL_ (some 19) rfl rfl Tryd.func36 (by kernel_rfl) rfl #[.slice Ao10 t340.length co10] rfl (by (try simp only [List.map_toArray, List.map_cons, List.map_nil]); first | done | rfl | (simp only [List.length_drop, List.length_take]; rfl)) ?_; (with_reducible refine (impl_Sketched.calls k _ _ t340 t343 t344 t345 t346 t347 t350 t353 _ ?side1 ?side2 ?side3 A5.out).mono ?_); (case side1 => exact Tabs.below HTAB.out (by repeat (first | (with_reducible first | exact HB.out | apply below_alloc | apply pw_below_drewN | apply below_drew1) | exact HB.out))); (case side2 => repeat (first | exact (Kd.R_reads' HO342.out).2.2 | (with_reducible refine Kd.C_alloc ?_ _) | (with_reducible refine Kd.C_drewN ?_ _) | (with_reducible refine Kd.C_drew ?_))); (case side3 => exact (Kd.R_reads' HO342.out).2.1); rintro e w11 ⟨v348, v351, v354, rfl, ho0, ho1, ho2, hb⟩; refine ⟨_, rfl, ?_⟩; have n0_ := Aside0.mk (Kd.R_mono (Kd.R_told (Kd.R_told (Kd.R_old (by (with_reducible repeat (first | apply Kd.R_alloc | apply Kd.R_drewN | apply Kd.R_drew)); exact HO342.out) hb) (Kd.R_base ho0)) (Kd.R_base ho1)) (fun _ h_ => h_.1)); have n1_ := Aside0.mk (Kd.R_lower (Kd.R_new' ho0 (Kd.R_lt (by (with_reducible repeat (first | apply Kd.R_alloc | apply Kd.R_drewN | apply Kd.R_drew)); exact HO342.out))) (below_size (by repeat (first | (with_reducible first | exact HB.out | apply below_alloc | apply pw_below_drewN | apply below_drew1) | exact HB.out)))); have n2_ := Aside0.mk (Kd.R_lower (Kd.R_new' ho1 (Kd.R_lt (by (with_reducible repeat (first | apply Kd.R_alloc | apply Kd.R_drewN | apply Kd.R_drew)); exact HO342.out))) (below_size (by repeat (first | (with_reducible first | exact HB.out | apply below_alloc | apply pw_below_drewN | apply below_drew1) | exact HB.out)))); have n3_ := Aside0.mk (Kd.S_lower (Kd.S_new' ho2 (Kd.R_lt (by (with_reducible repeat (first | apply Kd.R_alloc | apply Kd.R_drewN | apply Kd.R_drew)); exact HO342.out))) (below_size (by repeat (first | (with_reducible first | exact HB.out | apply below_alloc | apply pw_below_drewN | apply below_drew1) | exact HB.out)))); have n4_ := Aside0.mk (below_step (by repeat (first | (with_reducible first | exact HB.out | apply below_alloc | apply pw_below_drewN | apply below_drew1) | exact HB.out)) hb); clear HO342; clear HB; have HO342 := n0_; have HO349 := n1_; have HO352 := n2_; have HO355 := n3_; have HB := n4_; clear n0_ n1_ n2_ n3_ n4_; (try clear hb); (try clear hb2); (try clear hk); (try clear hi); (try clear ho0); (try clear ho1); (try clear ho2)) | ((with_reducible refine gate_dst (N := 4) rfl ?_); (try (refine gate_guard (by rfl) ?_; dsimp only)); refine box_event ?hg (N := 4) ?hd (cs := #[.int .i64 0, .int .i64 0, .int .i64 0, .int .i64 0, .slice none 0 0, .slice none 0 0, .slice none 0 0]) (t := 43) ?hr ?_; (case hd => rfl); (case hg => rfl); (case hr => first | (go_simp; done) | (go_simp; rfl)); intro gb356 hg w12 hbox hb; have n0_ := Aside0.mk (Kd.R_below (by (with_reducible repeat (first | apply Kd.R_alloc | apply Kd.R_drewN | apply Kd.R_drew)); exact HO342.out) hb); have n1_ := Aside0.mk (Kd.R_below (by (with_reducible repeat (first | apply Kd.R_alloc | apply Kd.R_drewN | apply Kd.R_drew)); exact HO349.out) hb); have n2_ := Aside0.mk (Kd.R_below (by (with_reducible repeat (first | apply Kd.R_alloc | apply Kd.R_drewN | apply Kd.R_drew)); exact HO352.out) hb); have n3_ := Aside0.mk (Kd.S_below (by (with_reducible repeat (first | apply Kd.S_alloc | apply Kd.S_drewN | apply Kd.S_drew)); exact HO355.out) hb); have n4_ := Aside0.mk (below_step (by repeat (first | (with_reducible first | exact HB.out | apply below_alloc | apply pw_below_drewN | apply below_drew1) | exact HB.out)) hb); have n5_ := Aside0.mk (hbox); have n6_ := Aside0.mk ((by rw [hg]; exact (below_size (by repeat (first | (with_reducible first | exact HB.out | apply below_alloc | apply pw_below_drewN | apply below_drew1) | exact HB.out))) : w.heap.size ≤ gb356)); have n7_ := Aside0.mk ((by rw [hg]; exact (below_size (by repeat (first | (with_reducible first | exact HB.out | apply below_alloc | apply pw_below_drewN | apply below_drew1) | exact HB.out))) : w.heap.size ≤ gb356)); clear HO342; clear HO349; clear HO352; clear HO355; clear HB; have HO342 := n0_; have HO349 := n1_; have HO352 := n2_; have HO355 := n3_; have HB := n4_; have BK356 := n5_; have GW356 := n6_; have GE356 := n7_; clear n0_ n1_ n2_ n3_ n4_ n5_ n6_ n7_; clear hb hbox hg; have hcz13_0 : w12.cell? ⟨gb356, 0, none⟩ = some (.int .i64 0) := (blk_cell BK356.out 0).trans rfl; have hcz13_1 : w12.cell? ⟨gb356, 1, none⟩ = some (.int .i64 0) := (blk_cell BK356.out 1).trans rfl; have hcz13_2 : w12.cell? ⟨gb356, 2, none⟩ = some (.int .i64 0) := (blk_cell BK356.out 2).trans rfl; have hcz13_3 : w12.cell? ⟨gb356, 3, none⟩ = some (.int .i64 0) := (blk_cell BK356.out 3).trans rfl; have hcz13_4 : w12.cell? ⟨gb356, 4, none⟩ = some (.slice none 0 0) := (blk_cell BK356.out 4).trans rfl; have hcz13_5 : w12.cell? ⟨gb356, 5, none⟩ = some (.slice none 0 0) := (blk_cell BK356.out 5).trans rfl; have hcz13_6 : w12.cell? ⟨gb356, 6, none⟩ = some (.slice none 0 0) := (blk_cell BK356.out 6).trans rfl; have hfz13_0 := blk_frozen BK356.out 0; have hfz13_1 := blk_frozen BK356.out 1; have hfz13_2 := blk_frozen BK356.out 2; have hfz13_3 := blk_frozen BK356.out 3; have hfz13_4 := blk_frozen BK356.out 4; have hfz13_5 := blk_frozen BK356.out 5; have hfz13_6 := blk_frozen BK356.out 6; obtain ⟨Ao14, co14, eo14⟩ := Kd.R_slice HO349.out; subst eo14; obtain ⟨Ao15, co15, eo15⟩ := Kd.R_slice HO352.out; subst eo15; obtain ⟨Ao16, co16, eo16⟩ := Kd.S_slice HO355.out; subst eo16))
   have n0_ : Aside0 (Kd.R (Kd.int .i64) 3 (((((((w12.setCell ⟨gb356, 0, none⟩ (.int .i64 t343)).setCell ⟨gb356, 1, none⟩ (.int .i64 t344)).setCell ⟨gb356, 2, none⟩ (.int .i64 t345)).setCell ⟨gb356, 3, none⟩ (.int .i64 t346)).setCell ⟨gb356, 4, none⟩ (.slice Ao14 t347.length co14)).setCell ⟨gb356, 5, none⟩ (.slice Ao15 t350.length co15)).setCell ⟨gb356, 6, none⟩ (.slice Ao16 t353.length co16)) w.heap.size (fun k_ => some k_ ≠ (.slice Ao14 t347.length co14 : Value).ownBlock ∧ some k_ ≠ (.slice Ao15 t350.length co15 : Value).ownBlock) (.slice Ao10 t340.length co10) t340) := ⟨by (with_reducible repeat (first | apply Kd.R_alloc | apply Kd.R_drewN | apply Kd.R_drew)); exact Kd.R_mono (Kd.R_far (p := ⟨gb356, 6, none⟩) (Kd.R_far (p := ⟨gb356, 5, none⟩) (Kd.R_far (p := ⟨gb356, 4, none⟩) (Kd.R_far (p := ⟨gb356, 3, none⟩) (Kd.R_far (p := ⟨gb356, 2, none⟩) (Kd.R_far (p := ⟨gb356, 1, none⟩) (Kd.R_far (p := ⟨gb356, 0, none⟩) (Kd.R_types HO342.out BK356.out (by decide)) (fun _ hk => hk.2) (.int .i64 t343)) (fun _ hk => hk.2) (.int .i64 t344)) (fun _ hk => hk.2) (.int .i64 t345)) (fun _ hk => hk.2) (.int .i64 t346)) (fun _ hk => hk.2) (.slice Ao14 t347.length co14)) (fun _ hk => hk.2) (.slice Ao15 t350.length co15)) (fun _ hk => hk.2) (.slice Ao16 t353.length co16)) (fun _ hk => ⟨hk.1.1.2, hk.1.2⟩)⟩
   have n1_ : Aside0 (Kd.R (Kd.int .i64) 3 (((((((w12.setCell ⟨gb356, 0, none⟩ (.int .i64 t343)).setCell ⟨gb356, 1, none⟩ (.int .i64 t344)).setCell ⟨gb356, 2, none⟩ (.int .i64 t345)).setCell ⟨gb356, 3, none⟩ (.int .i64 t346)).setCell ⟨gb356, 4, none⟩ (.slice Ao14 t347.length co14)).setCell ⟨gb356, 5, none⟩ (.slice Ao15 t350.length co15)).setCell ⟨gb356, 6, none⟩ (.slice Ao16 t353.length co16)) w.heap.size (fun k_ => some k_ ≠ (.slice Ao10 t340.length co10 : Value).ownBlock ∧ some k_ ≠ (.slice Ao15 t350.length co15 : Value).ownBlock) (.slice Ao14 t347.length co14) t347) := ⟨by (with_reducible repeat (first | apply Kd.R_alloc | apply Kd.R_drewN | apply Kd.R_drew)); exact Kd.R_mono (Kd.R_far (p := ⟨gb356, 6, none⟩) (Kd.R_far (p := ⟨gb356, 5, none⟩) (Kd.R_far (p := ⟨gb356, 4, none⟩) (Kd.R_far (p := ⟨gb356, 3, none⟩) (Kd.R_far (p := ⟨gb356, 2, none⟩) (Kd.R_far (p := ⟨gb356, 1, none⟩) (Kd.R_far (p := ⟨gb356, 0, none⟩) (Kd.R_types HO349.out BK356.out (by decide)) (fun _ hk => hk.2) (.int .i64 t343)) (fun _ hk => hk.2) (.int .i64 t344)) (fun _ hk => hk.2) (.int .i64 t345)) (fun _ hk => hk.2) (.int .i64 t346)) (fun _ hk => hk.2) (.slice Ao14 t347.length co14)) (fun _ hk => hk.2) (.slice Ao15 t350.length co15)) (fun _ hk => hk.2) (.slice Ao16 t353.length co16)) (fun _ hk => ⟨hk.1.2, hk.1.1⟩)⟩
   have n2_ : Aside0 (Kd.R (Kd.int .i64) 3 (((((((w12.setCell ⟨gb356, 0, none⟩ (.int .i64 t343)).setCell ⟨gb356, 1, none⟩ (.int .i64 t344)).setCell ⟨gb356, 2, none⟩ (.int .i64 t345)).setCell ⟨gb356, 3, none⟩ (.int .i64 t346)).setCell ⟨gb356, 4, none⟩ (.slice Ao14 t347.length co14)).setCell ⟨gb356, 5, none⟩ (.slice Ao15 t350.length co15)).setCell ⟨gb356, 6, none⟩ (.slice Ao16 t353.length co16)) w.heap.size (fun k_ => some k_ ≠ (.slice Ao10 t340.length co10 : Value).ownBlock ∧ some k_ ≠ (.slice Ao14 t347.length co14 : Value).ownBlock) (.slice Ao15 t350.length co15) t350) := ⟨by (with_reducible repeat (first | apply Kd.R_alloc | apply Kd.R_drewN | apply Kd.R_drew)); exact Kd.R_mono (Kd.R_far (p := ⟨gb356, 6, none⟩) (Kd.R_far (p := ⟨gb356, 5, none⟩) (Kd.R_far (p := ⟨gb356, 4, none⟩) (Kd.R_far (p := ⟨gb356, 3, none⟩) (Kd.R_far (p := ⟨gb356, 2, none⟩) (Kd.R_far (p := ⟨gb356, 1, none⟩) (Kd.R_far (p := ⟨gb356, 0, none⟩) (Kd.R_types HO352.out BK356.out (by decide)) (fun _ hk => hk.2) (.int .i64 t343)) (fun _ hk => hk.2) (.int .i64 t344)) (fun _ hk => hk.2) (.int .i64 t345)) (fun _ hk => hk.2) (.int .i64 t346)) (fun _ hk => hk.2) (.slice Ao14 t347.length co14)) (fun _ hk => hk.2) (.slice Ao15 t350.length co15)) (fun _ hk => hk.2) (.slice Ao16 t353.length co16)) (fun _ hk => ⟨hk.1.2, hk.1.1⟩)⟩
   have n3_ : Aside0 (Kd.S (Kd.slice 3 (Kd.int .i64)) 39 (((((((w12.setCell ⟨gb356, 0, none⟩ (.int .i64 t343)).setCell ⟨gb356, 1, none⟩ (.int .i64 t344)).setCell ⟨gb356, 2, none⟩ (.int .i64 t345)).setCell ⟨gb356, 3, none⟩ (.int .i64 t346)).setCell ⟨gb356, 4, none⟩ (.slice Ao14 t347.length co14)).setCell ⟨gb356, 5, none⟩ (.slice Ao15 t350.length co15)).setCell ⟨gb356, 6, none⟩ (.slice Ao16 t353.length co16)) w.heap.size (fun k_ => some k_ ≠ (.slice Ao10 t340.length co10 : Value).ownBlock ∧ some k_ ≠ (.slice Ao14 t347.length co14 : Value).ownBlock ∧ some k_ ≠ (.slice Ao15 t350.length co15 : Value).ownBlock) (.slice Ao16 t353.length co16) t353) := ⟨by (with_reducible repeat (first | apply Kd.S_alloc | apply Kd.S_drewN | apply Kd.S_drew)); exact Kd.S_mono (Kd.S_far (p := ⟨gb356, 6, none⟩) (Kd.S_far (p := ⟨gb356, 5, none⟩) (Kd.S_far (p := ⟨gb356, 4, none⟩) (Kd.S_far (p := ⟨gb356, 3, none⟩) (Kd.S_far (p := ⟨gb356, 2, none⟩) (Kd.S_far (p := ⟨gb356, 1, none⟩) (Kd.S_far (p := ⟨gb356, 0, none⟩) (Kd.S_types HO355.out BK356.out (by decide)) (fun _ hk => hk.2) (.int .i64 t343)) (fun _ hk => hk.2) (.int .i64 t344)) (fun _ hk => hk.2) (.int .i64 t345)) (fun _ hk => hk.2) (.int .i64 t346)) (fun _ hk => hk.2) (.slice Ao14 t347.length co14)) (fun _ hk => hk.2) (.slice Ao15 t350.length co15)) (fun _ hk => hk.2) (.slice Ao16 t353.length co16)) (fun _ hk => ⟨hk.1.2, ⟨hk.1.1.1, hk.1.1.2⟩⟩)⟩
   have n4_ : Aside0 ((((((((w12.setCell ⟨gb356, 0, none⟩ (.int .i64 t343)).setCell ⟨gb356, 1, none⟩ (.int .i64 t344)).setCell ⟨gb356, 2, none⟩ (.int .i64 t345)).setCell ⟨gb356, 3, none⟩ (.int .i64 t346)).setCell ⟨gb356, 4, none⟩ (.slice Ao14 t347.length co14)).setCell ⟨gb356, 5, none⟩ (.slice Ao15 t350.length co15)).setCell ⟨gb356, 6, none⟩ (.slice Ao16 t353.length co16)).heap[gb356]? = some (.cells #[.int .i64 t343, .int .i64 t344, .int .i64 t345, .int .i64 t346, .slice Ao14 t347.length co14, .slice Ao15 t350.length co15, .slice Ao16 t353.length co16] 43 (0, 0))) := ⟨by (with_reducible repeat (first | refine blk_drewN ?_ _ | refine blk_drew ?_ | refine blk_alloc ?_ _)); refine blk_put (cs := #[.int .i64 t343, .int .i64 t344, .int .i64 t345, .int .i64 t346, .slice Ao14 t347.length co14, .slice Ao15 t350.length co15, .slice none 0 0]) ?_ 6 _ rfl; (with_reducible repeat (first | refine blk_drewN ?_ _ | refine blk_drew ?_ | refine blk_alloc ?_ _)); refine blk_put (cs := #[.int .i64 t343, .int .i64 t344, .int .i64 t345, .int .i64 t346, .slice Ao14 t347.length co14, .slice none 0 0, .slice none 0 0]) ?_ 5 _ rfl; (with_reducible repeat (first | refine blk_drewN ?_ _ | refine blk_drew ?_ | refine blk_alloc ?_ _)); refine blk_put (cs := #[.int .i64 t343, .int .i64 t344, .int .i64 t345, .int .i64 t346, .slice none 0 0, .slice none 0 0, .slice none 0 0]) ?_ 4 _ rfl; (with_reducible repeat (first | refine blk_drewN ?_ _ | refine blk_drew ?_ | refine blk_alloc ?_ _)); refine blk_put (cs := #[.int .i64 t343, .int .i64 t344, .int .i64 t345, .int .i64 0, .slice none 0 0, .slice none 0 0, .slice none 0 0]) ?_ 3 _ rfl; (with_reducible repeat (first | refine blk_drewN ?_ _ | refine blk_drew ?_ | refine blk_alloc ?_ _)); refine blk_put (cs := #[.int .i64 t343, .int .i64 t344, .int .i64 0, .int .i64 0, .slice none 0 0, .slice none 0 0, .slice none 0 0]) ?_ 2 _ rfl; (with_reducible repeat (first | refine blk_drewN ?_ _ | refine blk_drew ?_ | refine blk_alloc ?_ _)); refine blk_put (cs := #[.int .i64 t343, .int .i64 0, .int .i64 0, .int .i64 0, .slice none 0 0, .slice none 0 0, .slice none 0 0]) ?_ 1 _ rfl; (with_reducible repeat (first | refine blk_drewN ?_ _ | refine blk_drew ?_ | refine blk_alloc ?_ _)); refine blk_put (cs := #[.int .i64 0, .int .i64 0, .int .i64 0, .int .i64 0, .slice none 0 0, .slice none 0 0, .slice none 0 0]) ?_ 0 _ rfl; (with_reducible repeat (first | refine blk_drewN ?_ _ | refine blk_drew ?_ | refine blk_alloc ?_ _)); exact BK356.out⟩
   have n5_ : Aside0 (Below w.heap.size w (((((((w12.setCell ⟨gb356, 0, none⟩ (.int .i64 t343)).setCell ⟨gb356, 1, none⟩ (.int .i64 t344)).setCell ⟨gb356, 2, none⟩ (.int .i64 t345)).setCell ⟨gb356, 3, none⟩ (.int .i64 t346)).setCell ⟨gb356, 4, none⟩ (.slice Ao14 t347.length co14)).setCell ⟨gb356, 5, none⟩ (.slice Ao15 t350.length co15)).setCell ⟨gb356, 6, none⟩ (.slice Ao16 t353.length co16))) := ⟨by repeat (first | (with_reducible first | exact HB.out | apply below_alloc | apply pw_below_drewN | apply below_drew1 | refine below_set ?_ GE356.out) | exact HB.out)⟩
   (try clear HO342)
   (try clear HO349)
   (try clear HO352)
   (try clear HO355)
   (try clear BK356)
   (try clear HB)
   generalize (((((((w12.setCell ⟨gb356, 0, none⟩ (.int .i64 t343)).setCell ⟨gb356, 1, none⟩ (.int .i64 t344)).setCell ⟨gb356, 2, none⟩ (.int .i64 t345)).setCell ⟨gb356, 3, none⟩ (.int .i64 t346)).setCell ⟨gb356, 4, none⟩ (.slice Ao14 t347.length co14)).setCell ⟨gb356, 5, none⟩ (.slice Ao15 t350.length co15)).setCell ⟨gb356, 6, none⟩ (.slice Ao16 t353.length co16)) = w17 at n0_ n1_ n2_ n3_ n4_ n5_ ⊢
   have HO342 := n0_
   have HO349 := n1_
   have HO352 := n2_
   have HO355 := n3_
   have BK356 := n4_
   have HB := n5_
   clear n0_ n1_ n2_ n3_ n4_ n5_
   have n0_ := Aside0.mk (Kd.R_drew HO342.out)
   have n1_ := Aside0.mk (Kd.R_drew HO349.out)
   have n2_ := Aside0.mk (Kd.R_drew HO352.out)
   have n3_ := Aside0.mk (Kd.S_drew HO355.out)
   have n4_ := Aside0.mk (blk_drew BK356.out)
   have n5_ := Aside0.mk (below_drew1 HB.out)
   clear HO342
   clear HO349
   clear HO352
   clear HO355
   clear BK356
   clear HB
   have HO342 := n0_
   have HO349 := n1_
   have HO352 := n2_
   have HO355 := n3_
   have BK356 := n4_
   have HB := n5_
   clear n0_ n1_ n2_ n3_ n4_ n5_
   refine start_ (n := 5) (S := fun w' => w'.cell? ⟨gb356, 0, none⟩ = some (.int .i64 t343) ∧ w'.cell? ⟨gb356, 1, none⟩ = some (.int .i64 t344) ∧ w'.cell? ⟨gb356, 2, none⟩ = some (.int .i64 t345) ∧ w'.cell? ⟨gb356, 3, none⟩ = some (.int .i64 t346) ∧ w'.cell? ⟨gb356, 4, none⟩ = some (.slice Ao14 t347.length co14) ∧ w'.cell? ⟨gb356, 5, none⟩ = some (.slice Ao15 t350.length co15) ∧ w'.cell? ⟨gb356, 6, none⟩ = some (.slice Ao16 t353.length co16)) (ds := []) #[false, false, false, false, false] (by kernel_rfl) rfl rfl ⟨(blk_cell BK356.out 0).trans rfl, (blk_cell BK356.out 1).trans rfl, (blk_cell BK356.out 2).trans rfl, (blk_cell BK356.out 3).trans rfl, (blk_cell BK356.out 4).trans rfl, (blk_cell BK356.out 5).trans rfl, (blk_cell BK356.out 6).trans rfl⟩ (fun hHeld => ?_)
   generalize w17.drew = w18 at HO342 HO349 HO352 HO355 BK356 HB hHeld ⊢
   refine pure_ (i := 1) (N := some 21) (v := ?_) (a' := ?_) #[false, true, false, false, false] rfl rfl (by kernel_rfl) (fun _ _ _ h => h) (Or.inl ⟨by rfl, ?_⟩) ?_ ?_
   rotate_left
   ·intro w'
    go_simp
    with_reducible rfl
   rotate_left
   ·simp only [Act.put, List.setIfInBounds_toArray, List.set_cons_zero, List.set_cons_succ, i64_w, i32_w]
    rfl
   refine take_ (i := 0) (N := some 20) (v := ?_) (a' := ?_) #[true, true, false, false, false] rfl rfl (by kernel_rfl) (fun _ _ _ h => h) (Or.inl ⟨by rfl, ?_⟩) hHeld ?_ ?_
   rotate_left
   ·rintro w' ⟨s0, s1, s2, s3, s4, s5, s6⟩
    go_simp
    with_reducible rfl
   rotate_left
   ·simp only [Act.put, List.setIfInBounds_toArray, List.set_cons_zero, List.set_cons_succ, i64_w, i32_w]
    rfl
   refine one_ (i := 2) (N := some 22) #[true, true, true, false, false] rfl rfl (by kernel_rfl) (by decide) (fun K hK => ?_)
   refine goes_ Tryd.func38 (by kernel_rfl) rfl #[.slice Ao10 t340.length co10] (by rfl) rfl rfl (by (try simp only [List.map_toArray, List.map_cons, List.map_nil]); first | done | rfl | (simp only [List.length_drop, List.length_take]; rfl)) ?_
   with_reducible refine (spec_Sketched.calls k _ _ t340 t357 t358 t359 t360 t361 t364 t367 _ ?side1 ?side2 A6.out).mono ?_
   (case side1 => repeat (first | exact (Kd.R_reads' HO342.out).2.2 | (with_reducible refine Kd.C_alloc ?_ _) | (with_reducible refine Kd.C_drewN ?_ _) | (with_reducible refine Kd.C_drew ?_)))
   (case side2 => exact (Kd.R_reads' HO342.out).2.1)
   rintro e w19 ⟨v362, v365, v368, rfl, ho0, ho1, ho2, hb⟩
   refine ⟨_, rfl, ?_⟩
   have n0_ := Aside0.mk (Kd.R_mono (Kd.R_told (Kd.R_told (Kd.R_old (by (with_reducible repeat (first | apply Kd.R_alloc | apply Kd.R_drewN | apply Kd.R_drew)); exact HO342.out) hb) (Kd.R_base ho0)) (Kd.R_base ho1)) (fun _ h_ => h_.1))
   have n1_ := Aside0.mk (Kd.R_mono (Kd.R_told (Kd.R_told (Kd.R_old (by (with_reducible repeat (first | apply Kd.R_alloc | apply Kd.R_drewN | apply Kd.R_drew)); exact HO349.out) hb) (Kd.R_base ho0)) (Kd.R_base ho1)) (fun _ h_ => h_.1))
   have n2_ := Aside0.mk (Kd.R_mono (Kd.R_told (Kd.R_told (Kd.R_old (by (with_reducible repeat (first | apply Kd.R_alloc | apply Kd.R_drewN | apply Kd.R_drew)); exact HO352.out) hb) (Kd.R_base ho0)) (Kd.R_base ho1)) (fun _ h_ => h_.1))
   have n3_ := Aside0.mk (Kd.S_mono (Kd.S_told (Kd.S_told (Kd.S_told (Kd.S_old (by (with_reducible repeat (first | apply Kd.S_alloc | apply Kd.S_drewN | apply Kd.S_drew)); exact HO355.out) hb) (Kd.R_base ho0)) (Kd.R_base ho1)) (Kd.S_base ho2)) (fun _ h_ => h_.1))
   have n4_ := Aside0.mk (Kd.R_lower (Kd.R_new' (Kd.R_new' (Kd.R_new' ho0 (Kd.R_lt (by (with_reducible repeat (first | apply Kd.R_alloc | apply Kd.R_drewN | apply Kd.R_drew)); exact HO342.out))) (Kd.R_lt (by (with_reducible repeat (first | apply Kd.R_alloc | apply Kd.R_drewN | apply Kd.R_drew)); exact HO349.out))) (Kd.R_lt (by (with_reducible repeat (first | apply Kd.R_alloc | apply Kd.R_drewN | apply Kd.R_drew)); exact HO352.out))) (below_size (by repeat (first | (with_reducible first | exact HB.out | apply below_alloc | apply pw_below_drewN | apply below_drew1 | refine below_set ?_ GE356.out) | exact HB.out))))
   have n5_ := Aside0.mk (Kd.R_lower (Kd.R_new' (Kd.R_new' (Kd.R_new' ho1 (Kd.R_lt (by (with_reducible repeat (first | apply Kd.R_alloc | apply Kd.R_drewN | apply Kd.R_drew)); exact HO342.out))) (Kd.R_lt (by (with_reducible repeat (first | apply Kd.R_alloc | apply Kd.R_drewN | apply Kd.R_drew)); exact HO349.out))) (Kd.R_lt (by (with_reducible repeat (first | apply Kd.R_alloc | apply Kd.R_drewN | apply Kd.R_drew)); exact HO352.out))) (below_size (by repeat (first | (with_reducible first | exact HB.out | apply below_alloc | apply pw_below_drewN | apply below_drew1 | refine below_set ?_ GE356.out) | exact HB.out))))
   have n6_ := Aside0.mk (Kd.S_lower (Kd.S_new' (Kd.S_new' (Kd.S_new' (Kd.S_new' ho2 (Kd.R_lt (by (with_reducible repeat (first | apply Kd.R_alloc | apply Kd.R_drewN | apply Kd.R_drew)); exact HO342.out))) (Kd.R_lt (by (with_reducible repeat (first | apply Kd.R_alloc | apply Kd.R_drewN | apply Kd.R_drew)); exact HO349.out))) (Kd.R_lt (by (with_reducible repeat (first | apply Kd.R_alloc | apply Kd.R_drewN | apply Kd.R_drew)); exact HO352.out))) (Kd.S_lt (by (with_reducible repeat (first | apply Kd.S_alloc | apply Kd.S_drewN | apply Kd.S_drew)); exact HO355.out))) (below_size (by repeat (first | (with_reducible first | exact HB.out | apply below_alloc | apply pw_below_drewN | apply below_drew1 | refine below_set ?_ GE356.out) | exact HB.out))))
   have n7_ := Aside0.mk (blk_below (g := gb356) (o := .cells #[.int .i64 t343, .int .i64 t344, .int .i64 t345, .int .i64 t346, .slice Ao14 t347.length co14, .slice Ao15 t350.length co15, .slice Ao16 t353.length co16] 43 (0, 0)) (by (with_reducible repeat (first | refine blk_drewN ?_ _ | refine blk_drew ?_ | refine blk_alloc ?_ _)); exact BK356.out) hb)
   have n8_ := Aside0.mk (below_step (by repeat (first | (with_reducible first | exact HB.out | apply below_alloc | apply pw_below_drewN | apply below_drew1 | refine below_set ?_ GE356.out) | exact HB.out)) hb)
   clear HO342
   clear HO349
   clear HO352
   clear HO355
   clear BK356
   clear HB
   have HO342 := n0_
   have HO349 := n1_
   have HO352 := n2_
   have HO355 := n3_
   have HO363 := n4_
   have HO366 := n5_
   have HO369 := n6_
   have BK356 := n7_
   have HB := n8_
   clear n0_ n1_ n2_ n3_ n4_ n5_ n6_ n7_ n8_
   (try clear hb)
   (try clear hb2)
   (try clear hk)
   (try clear hi)
   (try clear ho0)
   (try clear ho1)
   (try clear ho2)
   obtain ⟨Ao20, co20, eo20⟩ := Kd.R_slice HO363.out
   (first | subst eo20 | (injection eo20 with f1_ f2_ f3_; have f4_ := f1_.symm; have f5_ := f3_.symm; clear f1_ f2_ f3_; subst f4_; subst f5_))
   obtain ⟨Ao21, co21, eo21⟩ := Kd.R_slice HO366.out
   (first | subst eo21 | (injection eo21 with f1_ f2_ f3_; have f4_ := f1_.symm; have f5_ := f3_.symm; clear f1_ f2_ f3_; subst f4_; subst f5_))
   obtain ⟨Ao22, co22, eo22⟩ := Kd.S_slice HO369.out
   (first | subst eo22 | (injection eo22 with f1_ f2_ f3_; have f4_ := f1_.symm; have f5_ := f3_.symm; clear f1_ f2_ f3_; subst f4_; subst f5_))
   refine hK.out _ _ ⟨(blk_cell BK356.out 0).trans rfl, (blk_cell BK356.out 1).trans rfl, (blk_cell BK356.out 2).trans rfl, (blk_cell BK356.out 3).trans rfl, (blk_cell BK356.out 4).trans rfl, (blk_cell BK356.out 5).trans rfl, (blk_cell BK356.out 6).trans rfl⟩ (fun hHeld => ?_)
   clear hK K
   refine norm_ (a' := ?_) ?_ ?_
   rotate_left
   ·show Act.put _ (some 22) _ = _
    simp only [Act.put, List.setIfInBounds_toArray, List.set_cons_zero, List.set_cons_succ, i64_w, i32_w]
    rfl
   refine one_ (i := 3) (N := some 23) #[true, true, true, true, false] rfl rfl (by kernel_rfl) (by decide) (fun K hK => ?_)
   refine goes_ Tryd.func37 (by kernel_rfl) rfl #[.agg #[.int .i64 t343, .int .i64 t344, .int .i64 t345, .int .i64 t346, .slice Ao14 t347.length co14, .slice Ao15 t350.length co15, .slice Ao16 t353.length co16], .agg #[.int .i64 t357, .int .i64 t358, .int .i64 t359, .int .i64 t360, .slice Ao20 t361.length co20, .slice Ao21 t364.length co21, .slice Ao22 t367.length co22]] (by rfl) rfl rfl (by (try simp only [List.map_toArray, List.map_cons, List.map_nil]); first | done | rfl | (simp only [List.length_drop, List.length_take]; rfl)) ?_
   with_reducible refine (impl_SketchSame.calls k t343 t344 t345 t346 _ _ t347 _ _ t350 _ _ t353 t357 t358 t359 t360 _ _ t361 _ _ t364 _ _ t367 true _ ?side1 ?side2 ?side3 ?side4 ?side5 ?side6 ?side7 ?side8 ?side9 ?side10 ?side11 ?side12 A7.out).mono ?_
   (case side1 => repeat (first | exact (Kd.R_reads' HO349.out).2.2 | (with_reducible refine Kd.C_alloc ?_ _) | (with_reducible refine Kd.C_drewN ?_ _) | (with_reducible refine Kd.C_drew ?_)))
   (case side2 => exact (Kd.R_reads' HO349.out).2.1)
   (case side3 => repeat (first | exact (Kd.R_reads' HO352.out).2.2 | (with_reducible refine Kd.C_alloc ?_ _) | (with_reducible refine Kd.C_drewN ?_ _) | (with_reducible refine Kd.C_drew ?_)))
   (case side4 => exact (Kd.R_reads' HO352.out).2.1)
   (case side5 => repeat (first | exact (Kd.S_reads' HO355.out).2.2 | (with_reducible refine Kd.C_alloc ?_ _) | (with_reducible refine Kd.C_drewN ?_ _) | (with_reducible refine Kd.C_drew ?_)))
   (case side6 => exact (Kd.S_reads' HO355.out).2.1)
   (case side7 => repeat (first | exact (Kd.R_reads' HO363.out).2.2 | (with_reducible refine Kd.C_alloc ?_ _) | (with_reducible refine Kd.C_drewN ?_ _) | (with_reducible refine Kd.C_drew ?_)))
   (case side8 => exact (Kd.R_reads' HO363.out).2.1)
   (case side9 => repeat (first | exact (Kd.R_reads' HO366.out).2.2 | (with_reducible refine Kd.C_alloc ?_ _) | (with_reducible refine Kd.C_drewN ?_ _) | (with_reducible refine Kd.C_drew ?_)))
   (case side10 => exact (Kd.R_reads' HO366.out).2.1)
   (case side11 => repeat (first | exact (Kd.S_reads' HO369.out).2.2 | (with_reducible refine Kd.C_alloc ?_ _) | (with_reducible refine Kd.C_drewN ?_ _) | (with_reducible refine Kd.C_drew ?_)))
   (case side12 => exact (Kd.S_reads' HO369.out).2.1)
   rintro e w23 ⟨rfl, hb⟩
   refine ⟨_, rfl, ?_⟩
   have n0_ := Aside0.mk (Kd.R_below (by (with_reducible repeat (first | apply Kd.R_alloc | apply Kd.R_drewN | apply Kd.R_drew)); exact HO342.out) hb)
   have n1_ := Aside0.mk (Kd.R_below (by (with_reducible repeat (first | apply Kd.R_alloc | apply Kd.R_drewN | apply Kd.R_drew)); exact HO349.out) hb)
   have n2_ := Aside0.mk (Kd.R_below (by (with_reducible repeat (first | apply Kd.R_alloc | apply Kd.R_drewN | apply Kd.R_drew)); exact HO352.out) hb)
   have n3_ := Aside0.mk (Kd.S_below (by (with_reducible repeat (first | apply Kd.S_alloc | apply Kd.S_drewN | apply Kd.S_drew)); exact HO355.out) hb)
   have n4_ := Aside0.mk (Kd.R_below (by (with_reducible repeat (first | apply Kd.R_alloc | apply Kd.R_drewN | apply Kd.R_drew)); exact HO363.out) hb)
   have n5_ := Aside0.mk (Kd.R_below (by (with_reducible repeat (first | apply Kd.R_alloc | apply Kd.R_drewN | apply Kd.R_drew)); exact HO366.out) hb)
   have n6_ := Aside0.mk (Kd.S_below (by (with_reducible repeat (first | apply Kd.S_alloc | apply Kd.S_drewN | apply Kd.S_drew)); exact HO369.out) hb)
   have n7_ := Aside0.mk (blk_below (g := gb356) (o := .cells #[.int .i64 t343, .int .i64 t344, .int .i64 t345, .int .i64 t346, .slice Ao14 t347.length co14, .slice Ao15 t350.length co15, .slice Ao16 t353.length co16] 43 (0, 0)) (by (with_reducible repeat (first | refine blk_drewN ?_ _ | refine blk_drew ?_ | refine blk_alloc ?_ _)); exact BK356.out) hb)
   have n8_ := Aside0.mk (below_step (by repeat (first | (with_reducible first | exact HB.out | apply below_alloc | apply pw_below_drewN | apply below_drew1 | refine below_set ?_ GE356.out) | exact HB.out)) hb)
   clear HO342
   clear HO349
   clear HO352
   clear HO355
   clear HO363
   clear HO366
   clear HO369
   clear BK356
   clear HB
   have HO342 := n0_
   have HO349 := n1_
   have HO352 := n2_
   have HO355 := n3_
   have HO363 := n4_
   have HO366 := n5_
   have HO369 := n6_
   have BK356 := n7_
   have HB := n8_
   clear n0_ n1_ n2_ n3_ n4_ n5_ n6_ n7_ n8_
   (try clear hb)
   (try clear hb2)
   (try clear hk)
   (try clear hi)
   refine hK.out _ _ ⟨(blk_cell BK356.out 0).trans rfl, (blk_cell BK356.out 1).trans rfl, (blk_cell BK356.out 2).trans rfl, (blk_cell BK356.out 3).trans rfl, (blk_cell BK356.out 4).trans rfl, (blk_cell BK356.out 5).trans rfl, (blk_cell BK356.out 6).trans rfl⟩ (fun hHeld => ?_)
   clear hK K
   refine norm_ (a' := ?_) ?_ ?_
   rotate_left
   ·show Act.put _ (some 23) _ = _
    simp only [Act.put, List.setIfInBounds_toArray, List.set_cons_zero, List.set_cons_succ, i64_w, i32_w]
    rfl
   refine pure_ (i := 4) (N := some 24) (v := ?_) (a' := ?_) #[true, true, true, true, true] rfl rfl (by kernel_rfl) (fun _ _ _ h => h) (Or.inl ⟨by rfl, ?_⟩) ?_ ?_
   rotate_left
   ·intro w'
    go_simp
    with_reducible rfl
   rotate_left
   ·simp only [Act.put, List.setIfInBounds_toArray, List.set_cons_zero, List.set_cons_succ, i64_w, i32_w]
    rfl
   refine done_ (by kernel_rfl) ?_
   try go_wp2_with (first | ((with_reducible refine gate_dst (N := 25) rfl ?_); (try (refine gate_guard (by rfl) ?_; dsimp only)); refine Kd.R_lit (Kd.int .i64) _ 3 ?hg (N := 25) ?hd (xs := ([] : List Int)) (inner := []) (ok := fun _ => True) (okp := fun _ => True) ?hr ?hp (fun _ hk => hk) trivial (Below.refl _ _) (Nat.le_refl _) (by simp) ?_; (case hd => rfl); (case hg => rfl); (case hr => first | (go_simp; done) | (go_simp; rfl)); (case hp => exact (Reps.none _ _)); intro v372 w24 ho25 hb hg_ hnew_; clear hg_ hnew_; (first | rw [← Ny371.out] at ho25 | (simp only [Int.reduceToNat] at ho25; rw [← Ny371.out] at ho25)); have n0_ := Aside0.mk (Kd.R_elder' (by (with_reducible repeat (first | apply Kd.R_alloc | apply Kd.R_drewN | apply Kd.R_drew)); exact HO342.out) (Kd.R_base ho25) hb); have n1_ := Aside0.mk (Kd.R_elder' (by (with_reducible repeat (first | apply Kd.R_alloc | apply Kd.R_drewN | apply Kd.R_drew)); exact HO349.out) (Kd.R_base ho25) hb); have n2_ := Aside0.mk (Kd.R_elder' (by (with_reducible repeat (first | apply Kd.R_alloc | apply Kd.R_drewN | apply Kd.R_drew)); exact HO352.out) (Kd.R_base ho25) hb); have n3_ := Aside0.mk (Kd.S_elder' (by (with_reducible repeat (first | apply Kd.S_alloc | apply Kd.S_drewN | apply Kd.S_drew)); exact HO355.out) (Kd.R_base ho25) hb); have n4_ := Aside0.mk (Kd.R_elder' (by (with_reducible repeat (first | apply Kd.R_alloc | apply Kd.R_drewN | apply Kd.R_drew)); exact HO363.out) (Kd.R_base ho25) hb); have n5_ := Aside0.mk (Kd.R_elder' (by (with_reducible repeat (first | apply Kd.R_alloc | apply Kd.R_drewN | apply Kd.R_drew)); exact HO366.out) (Kd.R_base ho25) hb); have n6_ := Aside0.mk (Kd.S_elder' (by (with_reducible repeat (first | apply Kd.S_alloc | apply Kd.S_drewN | apply Kd.S_drew)); exact HO369.out) (Kd.R_base ho25) hb); have n7_ := Aside0.mk (Kd.R_lower (Kd.R_new' (Kd.R_new' (Kd.R_new' (Kd.R_new' (Kd.R_new' ho25 (Kd.R_lt (by (with_reducible repeat (first | apply Kd.R_alloc | apply Kd.R_drewN | apply Kd.R_drew)); exact HO342.out))) (Kd.R_lt (by (with_reducible repeat (first | apply Kd.R_alloc | apply Kd.R_drewN | apply Kd.R_drew)); exact HO349.out))) (Kd.R_lt (by (with_reducible repeat (first | apply Kd.R_alloc | apply Kd.R_drewN | apply Kd.R_drew)); exact HO352.out))) (Kd.R_lt (by (with_reducible repeat (first | apply Kd.R_alloc | apply Kd.R_drewN | apply Kd.R_drew)); exact HO363.out))) (Kd.R_lt (by (with_reducible repeat (first | apply Kd.R_alloc | apply Kd.R_drewN | apply Kd.R_drew)); exact HO366.out))) (below_size (by repeat (first | (with_reducible first | exact HB.out | apply below_alloc | apply pw_below_drewN | apply below_drew1 | refine below_set ?_ GE356.out) | exact HB.out)))); have n8_ := Aside0.mk (blk_below (g := gb356) (o := .cells #[.int .i64 t343, .int .i64 t344, .int .i64 t345, .int .i64 t346, .slice Ao14 t347.length co14, .slice Ao15 t350.length co15, .slice Ao16 t353.length co16] 43 (0, 0)) (by (with_reducible repeat (first | refine blk_drewN ?_ _ | refine blk_drew ?_ | refine blk_alloc ?_ _)); exact BK356.out) hb); have n9_ := Aside0.mk (below_step (by repeat (first | (with_reducible first | exact HB.out | apply below_alloc | apply pw_below_drewN | apply below_drew1 | refine below_set ?_ GE356.out) | exact HB.out)) hb); clear HO342; clear HO349; clear HO352; clear HO355; clear HO363; clear HO366; clear HO369; clear BK356; clear HB; have HO342 := n0_; have HO349 := n1_; have HO352 := n2_; have HO355 := n3_; have HO363 := n4_; have HO366 := n5_; have HO369 := n6_; have HO373 := n7_; have BK356 := n8_; have HB := n9_; clear n0_ n1_ n2_ n3_ n4_ n5_ n6_ n7_ n8_ n9_; clear hb ho25))
   go_loopg [5, 6] k (fun kq v5 v6 w' => ∃ (x5_1 : List Int) (x6_1 : Int), v6 = .int .i64 x6_1 ∧ Aside0 (laws_FnTells.l0 kq t340 x5_1 x6_1 t343 t344 t345 t346 t347 t350 t353 = some r) ∧ Aside0 (kq ≤ k) ∧ Aside0 (Kd.R (Kd.int .i64) 3 w' w.heap.size (fun k_ => some k_ ≠ (v5 : Value).ownBlock ∧ some k_ ≠ ((.slice Ao14 t347.length co14) : Value).ownBlock ∧ some k_ ≠ ((.slice Ao15 t350.length co15) : Value).ownBlock) (.slice Ao10 t340.length co10) t340) ∧ Aside0 (Kd.R (Kd.int .i64) 3 w' w.heap.size (fun k_ => some k_ ≠ ((.slice Ao10 t340.length co10) : Value).ownBlock ∧ some k_ ≠ ((.slice Ao14 t347.length co14) : Value).ownBlock ∧ some k_ ≠ ((.slice Ao15 t350.length co15) : Value).ownBlock) v5 x5_1) ∧ Aside0 (Kd.R (Kd.int .i64) 3 w' w.heap.size (fun k_ => some k_ ≠ ((.slice Ao10 t340.length co10) : Value).ownBlock ∧ some k_ ≠ (v5 : Value).ownBlock ∧ some k_ ≠ ((.slice Ao15 t350.length co15) : Value).ownBlock) (.slice Ao14 t347.length co14) t347) ∧ Aside0 (Kd.R (Kd.int .i64) 3 w' w.heap.size (fun k_ => some k_ ≠ ((.slice Ao10 t340.length co10) : Value).ownBlock ∧ some k_ ≠ (v5 : Value).ownBlock ∧ some k_ ≠ ((.slice Ao14 t347.length co14) : Value).ownBlock) (.slice Ao15 t350.length co15) t350) ∧ Aside0 (Kd.S (Kd.slice 3 (Kd.int .i64)) 39 w' w.heap.size (fun k_ => some k_ ≠ ((.slice Ao10 t340.length co10) : Value).ownBlock ∧ some k_ ≠ (v5 : Value).ownBlock ∧ some k_ ≠ ((.slice Ao14 t347.length co14) : Value).ownBlock ∧ some k_ ≠ ((.slice Ao15 t350.length co15) : Value).ownBlock) (.slice Ao16 t353.length co16) t353) ∧ Aside0 (w'.heap[gb356]? = some (.cells #[.int .i64 t343, .int .i64 t344, .int .i64 t345, .int .i64 t346, (.slice Ao14 t347.length co14), (.slice Ao15 t350.length co15), (.slice Ao16 t353.length co16)] 43 (0, 0))) ∧ Aside0 (Below w.heap.size w w'))
   case atStart => exact ⟨(y371), (0), (by first | rfl | (simp; done) | (simp [*]; done)), H', ⟨Nat.le_refl _⟩, ⟨by (with_reducible repeat (first | apply Kd.R_alloc | apply Kd.R_drewN | apply Kd.R_drew)); exact Kd.R_mono HO342.out (fun _ hk => ⟨hk.2, ⟨hk.1.1.1.1, hk.1.1.1.2⟩⟩)⟩, ⟨by (with_reducible repeat (first | apply Kd.R_alloc | apply Kd.R_drewN | apply Kd.R_drew)); exact Kd.R_mono HO373.out (fun _ hk => ⟨hk.1.1.1.1.2, ⟨hk.1.1.1.2, hk.1.1.2⟩⟩)⟩, ⟨by (with_reducible repeat (first | apply Kd.R_alloc | apply Kd.R_drewN | apply Kd.R_drew)); exact Kd.R_mono HO349.out (fun _ hk => ⟨hk.1.1.1.1, ⟨hk.2, hk.1.1.1.2⟩⟩)⟩, ⟨by (with_reducible repeat (first | apply Kd.R_alloc | apply Kd.R_drewN | apply Kd.R_drew)); exact Kd.R_mono HO352.out (fun _ hk => ⟨hk.1.1.1.1, ⟨hk.2, hk.1.1.1.2⟩⟩)⟩, ⟨by (with_reducible repeat (first | apply Kd.S_alloc | apply Kd.S_drewN | apply Kd.S_drew)); exact Kd.S_mono HO355.out (fun _ hk => ⟨hk.1.1.1.1.1, ⟨hk.2, ⟨hk.1.1.1.1.2.1, hk.1.1.1.1.2.2⟩⟩⟩)⟩, ⟨by (with_reducible repeat (first | refine blk_drewN ?_ _ | refine blk_drew ?_ | refine blk_alloc ?_ _)); exact BK356.out⟩, ⟨by repeat (first | (with_reducible first | exact HB.out | apply below_alloc | apply pw_below_drewN | apply below_drew1 | refine below_set ?_ GE356.out) | exact HB.out)⟩⟩
   case round =>
    clear H'
    try clear c1
    try clear p2
    try clear c3
    try clear c8
    try clear c12
    try clear c17
    try clear hcz13_0
    try clear hcz13_1
    try clear hcz13_2
    try clear hcz13_3
    try clear hcz13_4
    try clear hcz13_5
    try clear hcz13_6
    try clear hfz13_0
    try clear hfz13_1
    try clear hfz13_2
    try clear hfz13_3
    try clear hfz13_4
    try clear hfz13_5
    try clear hfz13_6
    (try clear BK356)
    obtain ⟨x5_1, x6_1, rfl, HA, HK1, HO_3, HO_5, HO_357004, HO_357005, HO_357006, BK356, HB⟩ := hrel
    cases gk with
    | zero => exact absurd HA.out (by simp [laws_FnTells.l0])
    | succ k1 =>
     have H := HA.out;clear HA;simp only [laws_FnTells.l0] at H
     by_cases c26 : x6_1 < (t340.length : Int)
     ·rw [if_pos c26] at H
      have c26b0 : decide (x6_1 < (t340.length : Int)) = true := decide_eq_true c26;clear c26
      by_cases c27 : 0 ≤ x6_1
      ·rw [if_pos c27] at H
       have c27b0 : decide (0 ≤ x6_1) = true := decide_eq_true c27;clear c27
       by_cases c28 : (rd t340 x6_1) ≥ 0
       ·rw [if_pos c28] at H
        have c28b0 : decide (0 ≤ (rd t340 x6_1)) = true := decide_eq_true c28;clear c28
        by_cases c29 : (rd t340 x6_1) ≤ 1000000
        ·rw [if_pos c29] at H
         have c29b0 : decide ((rd t340 x6_1) ≤ 1000000) = true := decide_eq_true c29;clear c29
         by_cases c30 : x5_1.length < 17592186044416
         ·rw [if_pos c30] at H
          have LMc30 := Aside0.mk c30;clear c30;obtain ⟨y377, hy377⟩ : ∃ y_ : List Int, y_ = (x5_1 ++ [rd t340 x6_1]) := ⟨_, rfl⟩
          replace H : (laws_FnTells.l0 k1 t340 y377 (wrap64 (x6_1 + 1)) t343 t344 t345 t346 t347 t350 t353) = some r := by first | (rw [hy377]; with_reducible exact H) | (have H2_ := (Option.bind_some _ _).symm.trans H; rw [hy377]; with_reducible exact H2_) | (have H2_ := (Option.bind_some _ _).symm.trans H; with_reducible exact H2_) | with_reducible exact H | (rw [hy377]; exact H) | exact H
          have Ny377 := Aside0.mk hy377;clear hy377;have H' := Aside0.mk H;clear H;have p374 : 0 ≤ (x6_1 : Int) := of_decide_eq_true (by first | (with_reducible assumption) | assumption);have q374 : x6_1 < (t340.length : Int) := of_decide_eq_true (by first | (with_reducible assumption) | assumption);obtain ⟨ad374, e374, hx374_0⟩ := Kd.at_int (Kd.R_reads' HO_3.out).2.2 x6_1 p374 q374
          cases e374
          replace p374 := eq_true p374;replace q374 := eq_true q374;have p375 : 0 ≤ (x6_1 : Int) := of_decide_eq_true (by first | (with_reducible assumption) | assumption);have q375 : x6_1 < (t340.length : Int) := of_decide_eq_true (by first | (with_reducible assumption) | assumption);obtain ⟨ad375, e375, hx375_0⟩ := Kd.at_int (Kd.R_reads' HO_3.out).2.2 x6_1 p375 q375;obtain rfl : ad374 = ad375 := (by injection e375);replace p375 := eq_true p375;replace q375 := eq_true q375;have p376 : 0 ≤ (x6_1 : Int) := of_decide_eq_true (by first | (with_reducible assumption) | assumption);have q376 : x6_1 < (t340.length : Int) := of_decide_eq_true (by first | (with_reducible assumption) | assumption);obtain ⟨ad376, e376, hx376_0⟩ := Kd.at_int (Kd.R_reads' HO_3.out).2.2 x6_1 p376 q376;obtain rfl : ad374 = ad376 := (by injection e376);replace p376 := eq_true p376;replace q376 := eq_true q376
          go_wp2_with (first | ((with_reducible refine gate_builtin (b := .append) (xs := #[.tmp 44, .tmp 49]) rfl ?_); (try (refine gate_guard (by rfl) ?_; dsimp only)); at_builtin; refine Kd.R_append (Kd.int .i64) (w0 := w) w.heap.size rfl (.tmp 44) (.tmp 49) 39 3 (.int .i64 0) 8 rfl Tryd.underlying39 info3 rfl (by decide) (by omega) u5 x5_1 (rd t340 x6_1) [.int .i64 (rd t340 x6_1)] (fun k_ => some k_ ≠ (.slice (some ad374) t340.length co10 : Value).ownBlock ∧ some k_ ≠ (.slice Ao14 t347.length co14 : Value).ownBlock ∧ some k_ ≠ (.slice Ao15 t350.length co15 : Value).ownBlock) (fun _ => False) rfl rfl ?aP (fun _ hk => hk.elim) ?aF ?aO ?aB ?aS ?aL ?_; (case aP => exact rfl); (case aB => exact (by repeat (first | (with_reducible first | exact HB.out | apply below_alloc | apply pw_below_drewN | apply below_drew1 | refine below_set ?_ GE356.out) | exact HB.out))); (case aF => exact (fun k_ hk => ⟨Kd.fresh' (Kd.R_lt (by (with_reducible repeat (first | apply Kd.R_alloc | apply Kd.R_drewN | apply Kd.R_drew)); exact HO_3.out)) k_ hk, Kd.fresh' (Kd.R_lt (by (with_reducible repeat (first | apply Kd.R_alloc | apply Kd.R_drewN | apply Kd.R_drew)); exact HO_357004.out)) k_ hk, Kd.fresh' (Kd.R_lt (by (with_reducible repeat (first | apply Kd.R_alloc | apply Kd.R_drewN | apply Kd.R_drew)); exact HO_357005.out)) k_ hk⟩)); (case aO => exact (by (with_reducible repeat (first | apply Kd.R_alloc | apply Kd.R_drewN | apply Kd.R_drew)); exact HO_5.out)); (case aS => exact (below_size (by repeat (first | (with_reducible first | exact HB.out | apply below_alloc | apply pw_below_drewN | apply below_drew1 | refine below_set ?_ GE356.out) | exact HB.out)))); (case aL => have := LMc30.out; omega); intro v378 w31 ho hb hg hat; rw [← Ny377.out] at ho; have n0_ := Aside0.mk (Kd.R_after (ok := (fun k_ => some k_ ≠ (.slice Ao14 t347.length co14 : Value).ownBlock ∧ some k_ ≠ (.slice Ao15 t350.length co15 : Value).ownBlock)) (by (with_reducible repeat (first | apply Kd.R_alloc | apply Kd.R_drewN | apply Kd.R_drew)); exact Kd.R_mono HO_3.out (fun _ hk => ⟨⟨hk.2.1, hk.2.2⟩, hk.1⟩)) hg hat); have n1_ := Aside0.mk (Kd.R_after (ok := (fun k_ => some k_ ≠ (.slice (some ad374) t340.length co10 : Value).ownBlock ∧ some k_ ≠ (.slice Ao15 t350.length co15 : Value).ownBlock)) (by (with_reducible repeat (first | apply Kd.R_alloc | apply Kd.R_drewN | apply Kd.R_drew)); exact Kd.R_mono HO_357004.out (fun _ hk => ⟨⟨hk.1, hk.2.2⟩, hk.2.1⟩)) hg hat); have n2_ := Aside0.mk (Kd.R_after (ok := (fun k_ => some k_ ≠ (.slice (some ad374) t340.length co10 : Value).ownBlock ∧ some k_ ≠ (.slice Ao14 t347.length co14 : Value).ownBlock)) (by (with_reducible repeat (first | apply Kd.R_alloc | apply Kd.R_drewN | apply Kd.R_drew)); exact Kd.R_mono HO_357005.out (fun _ hk => ⟨⟨hk.1, hk.2.2⟩, hk.2.1⟩)) hg hat); have n3_ := Aside0.mk (Kd.S_after (ok := (fun k_ => some k_ ≠ (.slice (some ad374) t340.length co10 : Value).ownBlock ∧ some k_ ≠ (.slice Ao14 t347.length co14 : Value).ownBlock ∧ some k_ ≠ (.slice Ao15 t350.length co15 : Value).ownBlock)) (by (with_reducible repeat (first | apply Kd.S_alloc | apply Kd.S_drewN | apply Kd.S_drew)); exact Kd.S_mono HO_357006.out (fun _ hk => ⟨⟨hk.1, ⟨hk.2.2.1, hk.2.2.2⟩⟩, hk.2.1⟩)) hg hat); have n4_ := Aside0.mk (blk_grown (g := gb356) (o := .cells #[.int .i64 t343, .int .i64 t344, .int .i64 t345, .int .i64 t346, .slice Ao14 t347.length co14, .slice Ao15 t350.length co15, .slice Ao16 t353.length co16] 43 (0, 0)) (by (with_reducible repeat (first | refine blk_drewN ?_ _ | refine blk_drew ?_ | refine blk_alloc ?_ _)); exact BK356.out) hg (Kd.R_ne HO_5.out BK356.out (by decide))); have n5_ := Aside0.mk (hb); have n6_ := Aside0.mk (ho); clear HO_3; clear HO_357004; clear HO_357005; clear HO_357006; clear BK356; clear HB; clear HO_5; have HO_3 := n0_; have HO_357004 := n1_; have HO_357005 := n2_; have HO_357006 := n3_; have BK356 := n4_; have HB := n5_; have HO379 := n6_; clear n0_ n1_ n2_ n3_ n4_ n5_ n6_; clear ho hb hg hat))
          go_roundg k1
          case measure => have := HK1.out; omega
          case rel => exact ⟨(y377), (wrap64 (x6_1 + 1)), (by first | rfl | (simp; done) | (simp [*]; done)), H', ⟨by have := HK1.out; omega⟩, ⟨by (with_reducible repeat (first | apply Kd.R_alloc | apply Kd.R_drewN | apply Kd.R_drew)); exact Kd.R_mono HO_3.out (fun _ hk => ⟨hk.2, ⟨hk.1.1, hk.1.2⟩⟩)⟩, ⟨by (with_reducible repeat (first | apply Kd.R_alloc | apply Kd.R_drewN | apply Kd.R_drew)); exact HO379.out⟩, ⟨by (with_reducible repeat (first | apply Kd.R_alloc | apply Kd.R_drewN | apply Kd.R_drew)); exact Kd.R_mono HO_357004.out (fun _ hk => ⟨hk.1.1, ⟨hk.2, hk.1.2⟩⟩)⟩, ⟨by (with_reducible repeat (first | apply Kd.R_alloc | apply Kd.R_drewN | apply Kd.R_drew)); exact Kd.R_mono HO_357005.out (fun _ hk => ⟨hk.1.1, ⟨hk.2, hk.1.2⟩⟩)⟩, ⟨by (with_reducible repeat (first | apply Kd.S_alloc | apply Kd.S_drewN | apply Kd.S_drew)); exact Kd.S_mono HO_357006.out (fun _ hk => ⟨hk.1.1, ⟨hk.2, ⟨hk.1.2.1, hk.1.2.2⟩⟩⟩)⟩, ⟨by (with_reducible repeat (first | refine blk_drewN ?_ _ | refine blk_drew ?_ | refine blk_alloc ?_ _)); exact BK356.out⟩, ⟨by repeat (first | (with_reducible first | exact HB.out | apply below_alloc | apply pw_below_drewN | apply below_drew1 | refine below_set ?_ GE356.out) | exact HB.out)⟩⟩
         ·rw [if_neg c30] at H
          exact absurd H (by simp)
        ·rw [if_neg c29] at H
         have c29b0 : decide ((rd t340 x6_1) ≤ 1000000) = false := decide_eq_false c29;clear c29;have H' := Aside0.mk H;clear H;have p374 : 0 ≤ (x6_1 : Int) := of_decide_eq_true (by first | (with_reducible assumption) | assumption);have q374 : x6_1 < (t340.length : Int) := of_decide_eq_true (by first | (with_reducible assumption) | assumption);obtain ⟨ad374, e374, hx374_0⟩ := Kd.at_int (Kd.R_reads' HO_3.out).2.2 x6_1 p374 q374
         cases e374
         replace p374 := eq_true p374;replace q374 := eq_true q374;have p375 : 0 ≤ (x6_1 : Int) := of_decide_eq_true (by first | (with_reducible assumption) | assumption);have q375 : x6_1 < (t340.length : Int) := of_decide_eq_true (by first | (with_reducible assumption) | assumption);obtain ⟨ad375, e375, hx375_0⟩ := Kd.at_int (Kd.R_reads' HO_3.out).2.2 x6_1 p375 q375;obtain rfl : ad374 = ad375 := (by injection e375);replace p375 := eq_true p375;replace q375 := eq_true q375
         go_wp2
         go_roundg k1
         case measure => have := HK1.out; omega
         case rel => exact ⟨(x5_1), (wrap64 (x6_1 + 1)), (by first | rfl | (simp; done) | (simp [*]; done)), H', ⟨by have := HK1.out; omega⟩, ⟨by (with_reducible repeat (first | apply Kd.R_alloc | apply Kd.R_drewN | apply Kd.R_drew)); exact HO_3.out⟩, ⟨by (with_reducible repeat (first | apply Kd.R_alloc | apply Kd.R_drewN | apply Kd.R_drew)); exact HO_5.out⟩, ⟨by (with_reducible repeat (first | apply Kd.R_alloc | apply Kd.R_drewN | apply Kd.R_drew)); exact HO_357004.out⟩, ⟨by (with_reducible repeat (first | apply Kd.R_alloc | apply Kd.R_drewN | apply Kd.R_drew)); exact HO_357005.out⟩, ⟨by (with_reducible repeat (first | apply Kd.S_alloc | apply Kd.S_drewN | apply Kd.S_drew)); exact HO_357006.out⟩, ⟨by (with_reducible repeat (first | refine blk_drewN ?_ _ | refine blk_drew ?_ | refine blk_alloc ?_ _)); exact BK356.out⟩, ⟨by repeat (first | (with_reducible first | exact HB.out | apply below_alloc | apply pw_below_drewN | apply below_drew1 | refine below_set ?_ GE356.out) | exact HB.out)⟩⟩
       ·rw [if_neg c28] at H
        have c28b0 : decide (0 ≤ (rd t340 x6_1)) = false := decide_eq_false c28;clear c28;have H' := Aside0.mk H;clear H;have p374 : 0 ≤ (x6_1 : Int) := of_decide_eq_true (by first | (with_reducible assumption) | assumption);have q374 : x6_1 < (t340.length : Int) := of_decide_eq_true (by first | (with_reducible assumption) | assumption);obtain ⟨ad374, e374, hx374_0⟩ := Kd.at_int (Kd.R_reads' HO_3.out).2.2 x6_1 p374 q374
        cases e374
        replace p374 := eq_true p374;replace q374 := eq_true q374
        go_wp2
        go_roundg k1
        case measure => have := HK1.out; omega
        case rel => exact ⟨(x5_1), (wrap64 (x6_1 + 1)), (by first | rfl | (simp; done) | (simp [*]; done)), H', ⟨by have := HK1.out; omega⟩, ⟨by (with_reducible repeat (first | apply Kd.R_alloc | apply Kd.R_drewN | apply Kd.R_drew)); exact HO_3.out⟩, ⟨by (with_reducible repeat (first | apply Kd.R_alloc | apply Kd.R_drewN | apply Kd.R_drew)); exact HO_5.out⟩, ⟨by (with_reducible repeat (first | apply Kd.R_alloc | apply Kd.R_drewN | apply Kd.R_drew)); exact HO_357004.out⟩, ⟨by (with_reducible repeat (first | apply Kd.R_alloc | apply Kd.R_drewN | apply Kd.R_drew)); exact HO_357005.out⟩, ⟨by (with_reducible repeat (first | apply Kd.S_alloc | apply Kd.S_drewN | apply Kd.S_drew)); exact HO_357006.out⟩, ⟨by (with_reducible repeat (first | refine blk_drewN ?_ _ | refine blk_drew ?_ | refine blk_alloc ?_ _)); exact BK356.out⟩, ⟨by repeat (first | (with_reducible first | exact HB.out | apply below_alloc | apply pw_below_drewN | apply below_drew1 | refine below_set ?_ GE356.out) | exact HB.out)⟩⟩
      ·rw [if_neg c27] at H
       exact absurd H (by simp)
     ·rw [if_neg c26] at H
      have c26b0 : decide (x6_1 < (t340.length : Int)) = false := decide_eq_false c26;clear c26;have H' := Aside0.mk H;clear H
      go_wp2
      go_loopg [7, 8, 9] k1 (fun kq v7 v8 v9 w' => ∃ (x7_2 : Int) (x8_2 : Int) (x9_2 : Int), v7 = .int .i64 x7_2 ∧ v8 = .int .i64 x8_2 ∧ v9 = .int .i64 x9_2 ∧ Aside0 (laws_FnTells.l1 kq x5_1 x7_2 x8_2 x9_2 t343 t344 t345 t346 t347 t350 t353 = some r) ∧ Aside0 (kq ≤ k1) ∧ Aside0 (Kd.R (Kd.int .i64) 3 w' w.heap.size (fun k_ => some k_ ≠ ((.slice Ao14 t347.length co14) : Value).ownBlock ∧ some k_ ≠ ((.slice Ao15 t350.length co15) : Value).ownBlock) u5 x5_1) ∧ Aside0 (Kd.R (Kd.int .i64) 3 w' w.heap.size (fun k_ => some k_ ≠ (u5 : Value).ownBlock ∧ some k_ ≠ ((.slice Ao15 t350.length co15) : Value).ownBlock) (.slice Ao14 t347.length co14) t347) ∧ Aside0 (Kd.R (Kd.int .i64) 3 w' w.heap.size (fun k_ => some k_ ≠ (u5 : Value).ownBlock ∧ some k_ ≠ ((.slice Ao14 t347.length co14) : Value).ownBlock) (.slice Ao15 t350.length co15) t350) ∧ Aside0 (Kd.S (Kd.slice 3 (Kd.int .i64)) 39 w' w.heap.size (fun k_ => some k_ ≠ (u5 : Value).ownBlock ∧ some k_ ≠ ((.slice Ao14 t347.length co14) : Value).ownBlock ∧ some k_ ≠ ((.slice Ao15 t350.length co15) : Value).ownBlock) (.slice Ao16 t353.length co16) t353) ∧ Aside0 (w'.heap[gb356]? = some (.cells #[.int .i64 t343, .int .i64 t344, .int .i64 t345, .int .i64 t346, (.slice Ao14 t347.length co14), (.slice Ao15 t350.length co15), (.slice Ao16 t353.length co16)] 43 (0, 0))) ∧ Aside0 (Below w.heap.size w w'))
      case atStart => exact ⟨(0), (0), (0), (by first | rfl | (simp; done) | (simp [*]; done)), (by first | rfl | (simp; done) | (simp [*]; done)), (by first | rfl | (simp; done) | (simp [*]; done)), H', ⟨Nat.le_refl _⟩, ⟨by (with_reducible repeat (first | apply Kd.R_alloc | apply Kd.R_drewN | apply Kd.R_drew)); exact Kd.R_mono HO_5.out (fun _ hk => ⟨hk.2.1, hk.2.2⟩)⟩, ⟨by (with_reducible repeat (first | apply Kd.R_alloc | apply Kd.R_drewN | apply Kd.R_drew)); exact Kd.R_mono HO_357004.out (fun _ hk => ⟨hk.2.1, hk.2.2⟩)⟩, ⟨by (with_reducible repeat (first | apply Kd.R_alloc | apply Kd.R_drewN | apply Kd.R_drew)); exact Kd.R_mono HO_357005.out (fun _ hk => ⟨hk.2.1, hk.2.2⟩)⟩, ⟨by (with_reducible repeat (first | apply Kd.S_alloc | apply Kd.S_drewN | apply Kd.S_drew)); exact Kd.S_mono HO_357006.out (fun _ hk => ⟨hk.2.1, ⟨hk.2.2.1, hk.2.2.2⟩⟩)⟩, ⟨by (with_reducible repeat (first | refine blk_drewN ?_ _ | refine blk_drew ?_ | refine blk_alloc ?_ _)); exact BK356.out⟩, ⟨by repeat (first | (with_reducible first | exact HB.out | apply below_alloc | apply pw_below_drewN | apply below_drew1 | refine below_set ?_ GE356.out) | exact HB.out)⟩⟩
      case round =>
       clear H'
       try clear c1
       try clear c2
       try clear p2
       try clear c3
       try clear p3
       try clear q3
       try clear hx3
       try clear p6
       try clear c8
       try clear c12
       try clear c17
       try clear c26
       try clear c26b0
       try clear c27
       try clear c27b0
       try clear c28
       try clear c28b0
       try clear c29
       try clear c29b0
       try clear c30
       try clear hcz13_0
       try clear hcz13_1
       try clear hcz13_2
       try clear hcz13_3
       try clear hcz13_4
       try clear hcz13_5
       try clear hcz13_6
       try clear hfz13_0
       try clear hfz13_1
       try clear hfz13_2
       try clear hfz13_3
       try clear hfz13_4
       try clear hfz13_5
       try clear hfz13_6
       try clear hx374_0
       try clear hx375_0
       try clear hx376_0
       try clear p2
       try clear p374
       try clear p375
       try clear p376
       try clear q374
       try clear q375
       try clear q376
       (try clear BK356)
       obtain ⟨x7_2, x8_2, x9_2, rfl, rfl, rfl, HA, HK2, HO_5, HO_357004, HO_357005, HO_357006, BK356, HB⟩ := hrel
       cases gk with
       | zero => exact absurd HA.out (by simp [laws_FnTells.l1])
       | succ k2 =>
        have H := HA.out;clear HA;simp only [laws_FnTells.l1] at H
        by_cases c32 : x9_2 < (x5_1.length : Int)
        ·rw [if_pos c32] at H
         have c32b0 : decide (x9_2 < (x5_1.length : Int)) = true := decide_eq_true c32;clear c32
         by_cases c33 : 0 ≤ x9_2
         ·rw [if_pos c33] at H
          have c33b0 : decide (0 ≤ x9_2) = true := decide_eq_true c33;clear c33;have c34b0 := eq_true (of_decide_eq_true (by first | (with_reducible assumption) | assumption) : 0 ≤ x9_2)
          by_cases c35 : x9_2 ≤ (x5_1.length : Int)
          ·rw [if_pos c35] at H
           have c35b0 := eq_true c35;have c35b1 : decide (x9_2 ≤ (x5_1.length : Int)) = true := decide_eq_true c35;clear c35;obtain ⟨y381, hy381⟩ : ∃ y_ : List Int, y_ = (x5_1.take (x9_2 : Int).toNat) := ⟨_, rfl⟩
           replace H : ((laws_times.f k2 y381 (rd x5_1 x9_2)).bind fun t386 => (if t386 = 0 then (laws_FnTells.j2 k2 x5_1 (wrap64 (x7_2 + 1)) (wrap64 (x8_2 + (rd x5_1 x9_2))) x9_2 t343 t344 t345 t346 t347 t350 t353) else (laws_FnTells.j2 k2 x5_1 x7_2 (wrap64 (x8_2 + (rd x5_1 x9_2))) x9_2 t343 t344 t345 t346 t347 t350 t353))) = some r := by first | (rw [hy381]; with_reducible exact H) | (have H2_ := (Option.bind_some _ _).symm.trans H; rw [hy381]; with_reducible exact H2_) | (have H2_ := (Option.bind_some _ _).symm.trans H; with_reducible exact H2_) | with_reducible exact H | (rw [hy381]; exact H) | exact H
           have Ny381 := Aside0.mk hy381;clear hy381;replace H := Option.bind_eq_some_iff.mp H;obtain ⟨t386, A360, H⟩ := H;replace H : (if t386 = 0 then (laws_FnTells.j2 k2 x5_1 (wrap64 (x7_2 + 1)) (wrap64 (x8_2 + (rd x5_1 x9_2))) x9_2 t343 t344 t345 t346 t347 t350 t353) else (laws_FnTells.j2 k2 x5_1 x7_2 (wrap64 (x8_2 + (rd x5_1 x9_2))) x9_2 t343 t344 t345 t346 t347 t350 t353)) = some r := H;have A36 := Aside0.mk A360;clear A360;have HC37 := Aside0.mk H;clear H;obtain ⟨Ao38, co38, eo38⟩ := Kd.R_slice HO_5.out;subst eo38;have p380 : 0 ≤ (x9_2 : Int) := of_decide_eq_true (by first | (with_reducible assumption) | assumption);have q380 : x9_2 < (x5_1.length : Int) := of_decide_eq_true (by first | (with_reducible assumption) | assumption);obtain ⟨ad380, e380, hx380_0⟩ := Kd.at_int (Kd.R_reads' HO_5.out).2.2 x9_2 p380 q380
           cases e380
           replace p380 := eq_true p380;replace q380 := eq_true q380
           try go_wp2
           have n0_ := Aside0.mk (Kd.R_drew HO_5.out);have n1_ := Aside0.mk (Kd.R_drew HO_357004.out);have n2_ := Aside0.mk (Kd.R_drew HO_357005.out);have n3_ := Aside0.mk (Kd.S_drew HO_357006.out);have n4_ := Aside0.mk (blk_drew BK356.out);have n5_ := Aside0.mk (below_drew1 HB.out);clear HO_5;clear HO_357004;clear HO_357005;clear HO_357006;clear BK356;clear HB;have HO_5 := n0_;have HO_357004 := n1_;have HO_357005 := n2_;have HO_357006 := n3_;have BK356 := n4_;have HB := n5_;clear n0_ n1_ n2_ n3_ n4_ n5_;have q40 : (x9_2 : Int) ≤ ((x5_1.length : Int) : Int) := of_decide_eq_true (by first | (with_reducible assumption) | assumption);obtain ⟨i040, hi040, _, hsz40, _⟩ := info_parts info3;have hroom40 : x5_1.length ≤ co38 := (Kd.R_reads' HO_5.out).2.1;have hC40 : Kd.C (Kd.int .i64) _ (some ad380) x5_1.length x5_1 := (Kd.R_reads' HO_5.out).2.2;have hcut40 := cut_to (P := Tryd.prog) 39 3 .i64 Tryd.underlying39 hi040 (some ad380) x5_1.length co38 x9_2 (of_decide_eq_true (by first | (with_reducible assumption) | assumption)) q40 hroom40;have hr40 := Kd.C_take (m := (x9_2 : Int).toNat) hC40 (by omega);have hy40 : y381.length = (x9_2 : Int).toNat := (by rw [Ny381.out, List.length_take]; omega);rw [← Ny381.out] at hr40;rw [← hy40] at hcut40;have HR384 := Aside0.mk hr40;have HC384 := Aside0.mk (show y381.length ≤ co38 from by omega);clear hr40 hC40 hroom40 hi040 hsz40;have KY40 := Aside0.mk hy40;clear hy40;have KL40 := Aside0.mk (show (x9_2 : Int).toNat ≤ x5_1.length from by omega);replace q40 := eq_true q40;have p385 : 0 ≤ (x9_2 : Int) := of_decide_eq_true (by first | (with_reducible assumption) | assumption);have q385 : x9_2 < (x5_1.length : Int) := of_decide_eq_true (by first | (with_reducible assumption) | assumption);obtain ⟨ad385, e385, hx385_0⟩ := Kd.at_int (Kd.R_reads' HO_5.out).2.2 x9_2 p385 q385;obtain rfl : ad380 = ad385 := (by injection e385);replace p385 := eq_true p385;replace q385 := eq_true q385;refine start_ (n := 9) (S := fun w' => w'.cell? (ad380.add (x9_2).toNat) = some (.int .i64 (rd x5_1 x9_2))) (ds := []) #[false, false, false, false, false, false, false, false, false] (by kernel_rfl) rfl rfl (hx385_0) (fun hHeld => ?_); refine with_tabW laws_FnTells.tab19 laws_FnTells.bits19 (fun HT_ HW_ => ?_);generalize wr.drew = w39 at HO_5 HO_357004 HO_357005 HO_357006 BK356 HB HR384 hx385_0 hHeld ⊢;refine pure_ (i := 0) (N := some 63) (v := ?_) (a' := ?_) #[true, false, false, false, false, false, false, false, false] rfl rfl (any_of HT_.out (by kernel_rfl)) (fun _ _ _ h => h) (Or.inl ⟨by rfl, ?_⟩) ?_ ?_
           rotate_left
           ·intro w'
            go_simp
            with_reducible rfl
           rotate_left
           ·simp only [Act.put, List.setIfInBounds_toArray, List.set_cons_zero, List.set_cons_succ, i64_w, i32_w]
            rfl
           refine pure_ (i := 1) (N := some 64) (v := ?_) (a' := ?_) #[true, true, false, false, false, false, false, false, false] rfl rfl (any_of HT_.out (by kernel_rfl)) (fun _ _ _ h => h) (Or.inl ⟨by rfl, ?_⟩) ?_ ?_
           rotate_left
           ·intro w'
            go_simp
            with_reducible rfl
           rotate_left
           ·simp only [Act.put, List.setIfInBounds_toArray, List.set_cons_zero, List.set_cons_succ, i64_w, i32_w]
            rfl
           refine pure_ (i := 2) (N := some 65) (v := ?_) (a' := ?_) #[true, true, true, false, false, false, false, false, false] rfl rfl (any_of HT_.out (by kernel_rfl)) (fun _ _ _ h => h) (Or.inl ⟨by rfl, ?_⟩) ?_ ?_
           rotate_left
           ·intro w'
            go_simp
            with_reducible rfl
           rotate_left
           ·simp only [Act.put, List.setIfInBounds_toArray, List.set_cons_zero, List.set_cons_succ, i64_w, i32_w]
            rfl
           refine pure_ (i := 3) (N := some 66) (v := ?_) (a' := ?_) #[true, true, true, true, false, false, false, false, false] rfl rfl (any_of HT_.out (by kernel_rfl)) (fun _ _ _ h => h) (Or.inl ⟨by rfl, ?_⟩) ?_ ?_
           rotate_left
           ·intro w'
            go_simp
            with_reducible rfl
           rotate_left
           ·simp only [Act.put, List.setIfInBounds_toArray, List.set_cons_zero, List.set_cons_succ, i64_w, i32_w]
            rfl
           refine pure_ (i := 4) (N := some 67) (v := ?_) (a' := ?_) #[true, true, true, true, true, false, false, false, false] rfl rfl (any_of HT_.out (by kernel_rfl)) (fun _ _ _ h => h) (Or.inl ⟨by rfl, ?_⟩) ?_ ?_
           rotate_left
           ·intro w'
            go_simp
            with_reducible rfl
           rotate_left
           ·simp only [Act.put, List.setIfInBounds_toArray, List.set_cons_zero, List.set_cons_succ, i64_w, i32_w]
            rfl
           refine pure_ (i := 5) (N := some 68) (v := ?_) (a' := ?_) #[true, true, true, true, true, true, false, false, false] rfl rfl (any_of HT_.out (by kernel_rfl)) (fun _ _ _ h => h) (Or.inl ⟨by rfl, ?_⟩) ?_ ?_
           rotate_left
           ·intro w'
            go_simp
            with_reducible rfl
           rotate_left
           ·simp only [Act.put, List.setIfInBounds_toArray, List.set_cons_zero, List.set_cons_succ, i64_w, i32_w]
            rfl
           refine take_ (i := 6) (N := some 69) (v := ?_) (a' := ?_) #[true, true, true, true, true, true, true, false, false] rfl rfl (take_ofW HT_.out HW_.out (by kernel_rfl)) (fun _ _ _ h => h) (Or.inl ⟨by rfl, ?_⟩) hHeld ?_ ?_
           rotate_left
           ·intro w' s0
            go_simp
            with_reducible rfl
           rotate_left
           ·simp only [Act.put, List.setIfInBounds_toArray, List.set_cons_zero, List.set_cons_succ, i64_w, i32_w]
            rfl
           refine one_ (i := 7) (N := some 70) #[true, true, true, true, true, true, true, true, false] rfl rfl (one_of HT_.out (by kernel_rfl)) (by decide) (fun K hK => ?_);refine goes_ Tryd.func56 (by kernel_rfl) rfl #[.slice (some ad380) y381.length co38, .int .i64 (rd x5_1 x9_2)] (by rfl) rfl rfl (by (try simp only [List.map_toArray, List.map_cons, List.map_nil]); first | done | rfl | (simp only [List.length_drop, List.length_take]; rfl)) ?_
           with_reducible refine (laws_times.calls k2 _ _ y381 (rd x5_1 x9_2) t386 _ ?side1 ?side2 A36.out).mono ?_
           (case side1 => repeat (first | exact (by repeat (first | (with_reducible exact HR384.out) | (with_reducible refine Kd.C_alloc ?_ _) | (with_reducible refine Kd.C_drewN ?_ _) | (with_reducible refine Kd.C_drew ?_) | exact HR384.out)) | (with_reducible refine Kd.C_alloc ?_ _) | (with_reducible refine Kd.C_drewN ?_ _) | (with_reducible refine Kd.C_drew ?_)))
           (case side2 => exact HC384.out)
           rintro e w' ⟨rfl, ⟨nd, rfl⟩⟩
           refine ⟨_, rfl, ?_⟩;refine hK.out _ _ (hHeld) (fun hHeld => ?_);clear hK K;refine norm_ (a' := ?_) ?_ ?_
           rotate_left
           ·show Act.put _ (some 70) _ = _
            simp only [Act.put, List.setIfInBounds_toArray, List.set_cons_zero, List.set_cons_succ, i64_w, i32_w]
            rfl
           refine pure_ (i := 8) (N := some 71) (v := ?_) (a' := ?_) #[true, true, true, true, true, true, true, true, true] rfl rfl (any_of HT_.out (by kernel_rfl)) (fun _ _ _ h => h) (Or.inl ⟨by rfl, ?_⟩) ?_ ?_
           rotate_left
           ·intro w'
            go_simp
            with_reducible rfl
           rotate_left
           ·simp only [Act.put, List.setIfInBounds_toArray, List.set_cons_zero, List.set_cons_succ, i64_w, i32_w]
            rfl
           refine done_ (done_of HT_.out (by kernel_rfl)) ?_
           go_upto_if 71 with (fail)
           go_cut [7] (fun v7 wc => ∃ (kq : Nat) (x7_36 : Int), v7 = .int .i64 x7_36 ∧ Aside0 (laws_FnTells.j2 kq x5_1 x7_36 (wrap64 (x8_2 + (rd x5_1 x9_2))) x9_2 t343 t344 t345 t346 t347 t350 t353 = some r) ∧ Aside0 (kq ≤ k2) ∧ Aside0 (Kd.R (Kd.int .i64) 3 wc w.heap.size (fun k_ => some k_ ≠ ((.slice Ao14 t347.length co14) : Value).ownBlock ∧ some k_ ≠ ((.slice Ao15 t350.length co15) : Value).ownBlock) (.slice (some ad380) x5_1.length co38) x5_1) ∧ Aside0 (Kd.R (Kd.int .i64) 3 wc w.heap.size (fun k_ => some k_ ≠ ((.slice (some ad380) x5_1.length co38) : Value).ownBlock ∧ some k_ ≠ ((.slice Ao15 t350.length co15) : Value).ownBlock) (.slice Ao14 t347.length co14) t347) ∧ Aside0 (Kd.R (Kd.int .i64) 3 wc w.heap.size (fun k_ => some k_ ≠ ((.slice (some ad380) x5_1.length co38) : Value).ownBlock ∧ some k_ ≠ ((.slice Ao14 t347.length co14) : Value).ownBlock) (.slice Ao15 t350.length co15) t350) ∧ Aside0 (Kd.S (Kd.slice 3 (Kd.int .i64)) 39 wc w.heap.size (fun k_ => some k_ ≠ ((.slice (some ad380) x5_1.length co38) : Value).ownBlock ∧ some k_ ≠ ((.slice Ao14 t347.length co14) : Value).ownBlock ∧ some k_ ≠ ((.slice Ao15 t350.length co15) : Value).ownBlock) (.slice Ao16 t353.length co16) t353) ∧ Aside0 (wc.heap[gb356]? = some (.cells #[.int .i64 t343, .int .i64 t344, .int .i64 t345, .int .i64 t346, (.slice Ao14 t347.length co14), (.slice Ao15 t350.length co15), (.slice Ao16 t353.length co16)] 43 (0, 0))) ∧ Aside0 (Kd.C (Kd.int .i64) wc (some ad380) y381.length y381) ∧ Aside0 (Below w.heap.size w wc))
           case first =>
            have H := HC37.out;clear HC37
            by_cases c41 : t386 = 0
            ·rw [if_pos c41] at H
             have c41b0 : (t386 == 0) = true := beq_iff_eq.mpr c41;have c41b1 : (t386 != 0) = false := bne_eq_false_iff_eq.mpr c41;clear c41
             (first | rw [c41b0] | (simp only [i64_w, i32_w]; rw [c41b0]) | rw [c41b1] | rw [c41b2] | rw [c41b3] | skip)
             have H' := Aside0.mk H;clear H
             go_wp2
             (first | go_meet | (refine Met.intro ?_; go_step; (repeat apply Exists.intro); refine ⟨?rel, ?eqs⟩; case eqs => ((try rw [show (!true) = true from by assumption]); (try rw [show (!true) = false from by assumption]); (try rw [show (decide (x6_1 < (t340.length : Int))) = true from by assumption]); (try rw [show (decide (x6_1 < (t340.length : Int))) = false from by assumption]); (try rw [show (decide (x9_2 < (x5_1.length : Int))) = true from by assumption]); (try rw [show (decide (x9_2 < (x5_1.length : Int))) = false from by assumption]); (try rw [show (t386 == 0) = true from by assumption]); (try rw [show (t386 == 0) = false from by assumption]); (try rfl))))
             case rel => exact ⟨_, (wrap64 (x7_2 + 1)), (by first | rfl | (simp; done) | (simp [*]; done)), H', ⟨by have := HK1.out; have := HK2.out; first | omega | exact Nat.le_refl _⟩, ⟨by (with_reducible repeat (first | apply Kd.R_alloc | apply Kd.R_drewN | apply Kd.R_drew)); exact HO_5.out⟩, ⟨by (with_reducible repeat (first | apply Kd.R_alloc | apply Kd.R_drewN | apply Kd.R_drew)); exact HO_357004.out⟩, ⟨by (with_reducible repeat (first | apply Kd.R_alloc | apply Kd.R_drewN | apply Kd.R_drew)); exact HO_357005.out⟩, ⟨by (with_reducible repeat (first | apply Kd.S_alloc | apply Kd.S_drewN | apply Kd.S_drew)); exact HO_357006.out⟩, ⟨by (with_reducible repeat (first | refine blk_drewN ?_ _ | refine blk_drew ?_ | refine blk_alloc ?_ _)); exact BK356.out⟩, ⟨by repeat (first | (with_reducible exact HR384.out) | (with_reducible refine Kd.C_alloc ?_ _) | (with_reducible refine Kd.C_drewN ?_ _) | (with_reducible refine Kd.C_drew ?_) | exact HR384.out)⟩, ⟨by repeat (first | (with_reducible first | exact HB.out | apply below_alloc | apply pw_below_drewN | apply below_drew1 | refine below_set ?_ GE356.out) | exact HB.out)⟩⟩
            ·rw [if_neg c41] at H
             have c41b0 : (t386 == 0) = false := beq_eq_false_iff_ne.mpr c41;have c41b1 : (t386 != 0) = true := bne_iff_ne.mpr c41
             (first | rw [c41b0] | (simp only [i64_w, i32_w]; rw [c41b0]) | rw [c41b1] | rw [c41b2] | rw [c41b3] | skip)
             have H' := Aside0.mk H;clear H
             go_wp2
             (first | go_meet | (refine Met.intro ?_; go_step; (repeat apply Exists.intro); refine ⟨?rel, ?eqs⟩; case eqs => ((try rw [show (!true) = true from by assumption]); (try rw [show (!true) = false from by assumption]); (try rw [show (decide (x6_1 < (t340.length : Int))) = true from by assumption]); (try rw [show (decide (x6_1 < (t340.length : Int))) = false from by assumption]); (try rw [show (decide (x9_2 < (x5_1.length : Int))) = true from by assumption]); (try rw [show (decide (x9_2 < (x5_1.length : Int))) = false from by assumption]); (try rw [show (t386 == 0) = true from by assumption]); (try rw [show (t386 == 0) = false from by assumption]); (try rfl))))
             case rel => exact ⟨_, (x7_2), (by first | rfl | (simp; done) | (simp [*]; done)), H', ⟨by have := HK1.out; have := HK2.out; first | omega | exact Nat.le_refl _⟩, ⟨by (with_reducible repeat (first | apply Kd.R_alloc | apply Kd.R_drewN | apply Kd.R_drew)); exact HO_5.out⟩, ⟨by (with_reducible repeat (first | apply Kd.R_alloc | apply Kd.R_drewN | apply Kd.R_drew)); exact HO_357004.out⟩, ⟨by (with_reducible repeat (first | apply Kd.R_alloc | apply Kd.R_drewN | apply Kd.R_drew)); exact HO_357005.out⟩, ⟨by (with_reducible repeat (first | apply Kd.S_alloc | apply Kd.S_drewN | apply Kd.S_drew)); exact HO_357006.out⟩, ⟨by (with_reducible repeat (first | refine blk_drewN ?_ _ | refine blk_drew ?_ | refine blk_alloc ?_ _)); exact BK356.out⟩, ⟨by repeat (first | (with_reducible exact HR384.out) | (with_reducible refine Kd.C_alloc ?_ _) | (with_reducible refine Kd.C_drewN ?_ _) | (with_reducible refine Kd.C_drew ?_) | exact HR384.out)⟩, ⟨by repeat (first | (with_reducible first | exact HB.out | apply below_alloc | apply pw_below_drewN | apply below_drew1 | refine below_set ?_ GE356.out) | exact HB.out)⟩⟩
           case rest =>
            clear HC37
            try clear c1
            try clear c2
            try clear p2
            try clear c3
            try clear p3
            try clear q3
            try clear hx3
            try clear c4
            try clear q4
            try clear c5
            try clear p6
            try clear c8
            try clear c12
            try clear c17
            try clear c26
            try clear c26b0
            try clear c27
            try clear c27b0
            try clear c28
            try clear c28b0
            try clear c29
            try clear c29b0
            try clear c30
            try clear c32
            try clear c32b0
            try clear c33
            try clear c33b0
            try clear c34
            try clear c34b0
            try clear c35
            try clear c35b0
            try clear c35b1
            try clear c36
            try clear c37
            try clear p37
            try clear q37
            try clear hx37
            try clear c38
            try clear p38
            try clear q38
            try clear hx38
            try clear q40
            try clear c41
            try clear c41b0
            try clear c41b1
            try clear c41b2
            try clear hcz13_0
            try clear hcz13_1
            try clear hcz13_2
            try clear hcz13_3
            try clear hcz13_4
            try clear hcz13_5
            try clear hcz13_6
            try clear hfz13_0
            try clear hfz13_1
            try clear hfz13_2
            try clear hfz13_3
            try clear hfz13_4
            try clear hfz13_5
            try clear hfz13_6
            try clear hx374_0
            try clear hx375_0
            try clear hx376_0
            try clear hx380_0
            try clear hx385_0
            try clear p2
            try clear p3
            try clear p374
            try clear p375
            try clear p376
            try clear p380
            try clear p385
            try clear p6
            try clear q3
            try clear q374
            try clear q375
            try clear q376
            try clear q380
            try clear q385
            try clear q40
            obtain ⟨kq, x7_36, rfl, HA, HJ36, HO_5, HO_357004, HO_357005, HO_357006, BK356, HR384, HB⟩ := hcut
            cases kq with
            | zero => exact absurd HA.out (by simp [laws_FnTells.j2])
            | succ kj36 =>
             have H := HA.out;clear HA;simp only [laws_FnTells.j2] at H
             by_cases c42 : 0 ≤ x9_2
             ·rw [if_pos c42] at H
              have c42b0 : decide (0 ≤ x9_2) = true := decide_eq_true c42;clear c42
              by_cases c43 : x9_2 < (x5_1.length : Int)
              ·rw [if_pos c43] at H
               have c43b0 : decide (x9_2 < (x5_1.length : Int)) = true := decide_eq_true c43;clear c43;replace H := Option.bind_eq_some_iff.mp H;obtain ⟨t388, A440, H⟩ := H;replace H : ((laws_times.f kj36 x5_1 (rd x5_1 x9_2)).bind fun t390 => (if t388 < t390 then (some false) else ((impl_Often.f kj36 t343 t344 t345 t346 t347 t350 t353 (rd x5_1 x9_2)).bind fun t392 => (if t392 > (x5_1.length : Int) then (some false) else (laws_FnTells.l1 kj36 x5_1 x7_36 (wrap64 (x8_2 + (rd x5_1 x9_2))) (wrap64 (x9_2 + 1)) t343 t344 t345 t346 t347 t350 t353))))) = some r := H;have A44 := Aside0.mk A440;clear A440;replace H := Option.bind_eq_some_iff.mp H;obtain ⟨t390, A450, H⟩ := H;replace H : (if t388 < t390 then (some false) else ((impl_Often.f kj36 t343 t344 t345 t346 t347 t350 t353 (rd x5_1 x9_2)).bind fun t392 => (if t392 > (x5_1.length : Int) then (some false) else (laws_FnTells.l1 kj36 x5_1 x7_36 (wrap64 (x8_2 + (rd x5_1 x9_2))) (wrap64 (x9_2 + 1)) t343 t344 t345 t346 t347 t350 t353)))) = some r := H;have A45 := Aside0.mk A450;clear A450
               by_cases c46 : t388 < t390
               ·rw [if_pos c46] at H
                have c46b0 : decide (t388 < t390) = true := decide_eq_true c46;clear c46;obtain rfl := Option.some.inj H;exact absurd hrt.out (by decide)
               ·rw [if_neg c46] at H
                have c46b0 : decide (t388 < t390) = false := decide_eq_false c46;clear c46;replace H := Option.bind_eq_some_iff.mp H;obtain ⟨t392, A470, H⟩ := H;replace H : (if t392 > (x5_1.length : Int) then (some false) else (laws_FnTells.l1 kj36 x5_1 x7_36 (wrap64 (x8_2 + (rd x5_1 x9_2))) (wrap64 (x9_2 + 1)) t343 t344 t345 t346 t347 t350 t353)) = some r := H;have A47 := Aside0.mk A470;clear A470
                by_cases c48 : t392 > (x5_1.length : Int)
                ·rw [if_pos c48] at H
                 have c48b0 : decide ((x5_1.length : Int) < t392) = true := decide_eq_true c48;clear c48;obtain rfl := Option.some.inj H;exact absurd hrt.out (by decide)
                ·rw [if_neg c48] at H
                 have c48b0 : decide ((x5_1.length : Int) < t392) = false := decide_eq_false c48;clear c48;have H' := Aside0.mk H;clear H
                 try go_wp2
                 have n0_ := Aside0.mk (Kd.R_drew HO_5.out);have n1_ := Aside0.mk (Kd.R_drew HO_357004.out);have n2_ := Aside0.mk (Kd.R_drew HO_357005.out);have n3_ := Aside0.mk (Kd.S_drew HO_357006.out);have n4_ := Aside0.mk (blk_drew BK356.out);have n5_ := Aside0.mk (Kd.C_drew HR384.out);have n6_ := Aside0.mk (below_drew1 HB.out);clear HO_5;clear HO_357004;clear HO_357005;clear HO_357006;clear BK356;clear HR384;clear HB;have HO_5 := n0_;have HO_357004 := n1_;have HO_357005 := n2_;have HO_357006 := n3_;have BK356 := n4_;have HR384 := n5_;have HB := n6_;clear n0_ n1_ n2_ n3_ n4_ n5_ n6_;have p387 : 0 ≤ (x9_2 : Int) := of_decide_eq_true (by first | (with_reducible assumption) | assumption);have q387 : x9_2 < (x5_1.length : Int) := of_decide_eq_true (by first | (with_reducible assumption) | assumption);obtain ⟨ad387, e387, hx387_0⟩ := Kd.at_int (Kd.R_reads' HO_5.out).2.2 x9_2 p387 q387;obtain rfl : ad380 = ad387 := (by injection e387);replace p387 := eq_true p387;replace q387 := eq_true q387;have p389 : 0 ≤ (x9_2 : Int) := of_decide_eq_true (by first | (with_reducible assumption) | assumption);have q389 : x9_2 < (x5_1.length : Int) := of_decide_eq_true (by first | (with_reducible assumption) | assumption);obtain ⟨ad389, e389, hx389_0⟩ := Kd.at_int (Kd.R_reads' HO_5.out).2.2 x9_2 p389 q389;obtain rfl : ad380 = ad389 := (by injection e389);replace p389 := eq_true p389;replace q389 := eq_true q389;have p391 : 0 ≤ (x9_2 : Int) := of_decide_eq_true (by first | (with_reducible assumption) | assumption);have q391 : x9_2 < (x5_1.length : Int) := of_decide_eq_true (by first | (with_reducible assumption) | assumption);obtain ⟨ad391, e391, hx391_0⟩ := Kd.at_int (Kd.R_reads' HO_5.out).2.2 x9_2 p391 q391;obtain rfl : ad380 = ad391 := (by injection e391);replace p391 := eq_true p391;replace q391 := eq_true q391;refine start_ (n := 24) (S := fun w' => w'.cell? ⟨gb356, 0, none⟩ = some (.int .i64 t343) ∧ w'.cell? ⟨gb356, 1, none⟩ = some (.int .i64 t344) ∧ w'.cell? ⟨gb356, 2, none⟩ = some (.int .i64 t345) ∧ w'.cell? ⟨gb356, 3, none⟩ = some (.int .i64 t346) ∧ w'.cell? ⟨gb356, 4, none⟩ = some (.slice Ao14 t347.length co14) ∧ w'.cell? ⟨gb356, 5, none⟩ = some (.slice Ao15 t350.length co15) ∧ w'.cell? ⟨gb356, 6, none⟩ = some (.slice Ao16 t353.length co16) ∧ w'.cell? (ad380.add (x9_2).toNat) = some (.int .i64 (rd x5_1 x9_2)) ∧ w'.cell? (ad380.add (x9_2).toNat) = some (.int .i64 (rd x5_1 x9_2)) ∧ w'.cell? (ad380.add (x9_2).toNat) = some (.int .i64 (rd x5_1 x9_2))) (ds := []) #[false, false, false, false, false, false, false, false, false, false, false, false, false, false, false, false, false, false, false, false, false, false, false, false] (by kernel_rfl) rfl rfl ⟨(blk_cell BK356.out 0).trans rfl, (blk_cell BK356.out 1).trans rfl, (blk_cell BK356.out 2).trans rfl, (blk_cell BK356.out 3).trans rfl, (blk_cell BK356.out 4).trans rfl, (blk_cell BK356.out 5).trans rfl, (blk_cell BK356.out 6).trans rfl, hx387_0, hx389_0, hx391_0⟩ (fun hHeld => ?_); refine with_tabW laws_FnTells.tab21 laws_FnTells.bits21 (fun HT_ HW_ => ?_);generalize wc.drew = w49 at HO_5 HO_357004 HO_357005 HO_357006 BK356 HR384 HB hx387_0 hx389_0 hx391_0 hHeld ⊢;refine pure_ (i := 1) (N := some 75) (v := ?_) (a' := ?_) #[false, true, false, false, false, false, false, false, false, false, false, false, false, false, false, false, false, false, false, false, false, false, false, false] rfl rfl (any_of HT_.out (by kernel_rfl)) (fun _ _ _ h => h) (Or.inl ⟨by rfl, ?_⟩) ?_ ?_
                 rotate_left
                 ·intro w'
                  go_simp
                  with_reducible rfl
                 rotate_left
                 ·simp only [Act.put, List.setIfInBounds_toArray, List.set_cons_zero, List.set_cons_succ, i64_w, i32_w]
                  rfl
                 refine pure_ (i := 2) (N := some 76) (v := ?_) (a' := ?_) #[false, true, true, false, false, false, false, false, false, false, false, false, false, false, false, false, false, false, false, false, false, false, false, false] rfl rfl (any_of HT_.out (by kernel_rfl)) (fun _ _ _ h => h) (Or.inl ⟨by rfl, ?_⟩) ?_ ?_
                 rotate_left
                 ·intro w'
                  go_simp
                  with_reducible rfl
                 rotate_left
                 ·simp only [Act.put, List.setIfInBounds_toArray, List.set_cons_zero, List.set_cons_succ, i64_w, i32_w]
                  rfl
                 refine pure_ (i := 3) (N := some 77) (v := ?_) (a' := ?_) #[false, true, true, true, false, false, false, false, false, false, false, false, false, false, false, false, false, false, false, false, false, false, false, false] rfl rfl (any_of HT_.out (by kernel_rfl)) (fun _ _ _ h => h) (Or.inl ⟨by rfl, ?_⟩) ?_ ?_
                 rotate_left
                 ·intro w'
                  go_simp
                  with_reducible rfl
                 rotate_left
                 ·simp only [Act.put, List.setIfInBounds_toArray, List.set_cons_zero, List.set_cons_succ, i64_w, i32_w]
                  rfl
                 refine pure_ (i := 6) (N := some 80) (v := ?_) (a' := ?_) #[false, true, true, true, false, false, true, false, false, false, false, false, false, false, false, false, false, false, false, false, false, false, false, false] rfl rfl (any_of HT_.out (by kernel_rfl)) (fun _ _ _ h => h) (Or.inl ⟨by rfl, ?_⟩) ?_ ?_
                 rotate_left
                 ·intro w'
                  go_simp
                  with_reducible rfl
                 rotate_left
                 ·simp only [Act.put, List.setIfInBounds_toArray, List.set_cons_zero, List.set_cons_succ, i64_w, i32_w]
                  rfl
                 refine pure_ (i := 7) (N := some 81) (v := ?_) (a' := ?_) #[false, true, true, true, false, false, true, true, false, false, false, false, false, false, false, false, false, false, false, false, false, false, false, false] rfl rfl (any_of HT_.out (by kernel_rfl)) (fun _ _ _ h => h) (Or.inl ⟨by rfl, ?_⟩) ?_ ?_
                 rotate_left
                 ·intro w'
                  go_simp
                  with_reducible rfl
                 rotate_left
                 ·simp only [Act.put, List.setIfInBounds_toArray, List.set_cons_zero, List.set_cons_succ, i64_w, i32_w]
                  rfl
                 refine pure_ (i := 8) (N := some 82) (v := ?_) (a' := ?_) #[false, true, true, true, false, false, true, true, true, false, false, false, false, false, false, false, false, false, false, false, false, false, false, false] rfl rfl (any_of HT_.out (by kernel_rfl)) (fun _ _ _ h => h) (Or.inl ⟨by rfl, ?_⟩) ?_ ?_
                 rotate_left
                 ·intro w'
                  go_simp
                  with_reducible rfl
                 rotate_left
                 ·simp only [Act.put, List.setIfInBounds_toArray, List.set_cons_zero, List.set_cons_succ, i64_w, i32_w]
                  rfl
                 refine pure_ (i := 9) (N := some 83) (v := ?_) (a' := ?_) #[false, true, true, true, false, false, true, true, true, true, false, false, false, false, false, false, false, false, false, false, false, false, false, false] rfl rfl (any_of HT_.out (by kernel_rfl)) (fun _ _ _ h => h) (Or.inl ⟨by rfl, ?_⟩) ?_ ?_
                 rotate_left
                 ·intro w'
                  go_simp
                  with_reducible rfl
                 rotate_left
                 ·simp only [Act.put, List.setIfInBounds_toArray, List.set_cons_zero, List.set_cons_succ, i64_w, i32_w]
                  rfl
                 refine take_ (i := 0) (N := some 74) (v := ?_) (a' := ?_) #[true, true, true, true, false, false, true, true, true, true, false, false, false, false, false, false, false, false, false, false, false, false, false, false] rfl rfl (take_ofW HT_.out HW_.out (by kernel_rfl)) (fun _ _ _ h => h) (Or.inl ⟨by rfl, ?_⟩) hHeld ?_ ?_
                 rotate_left
                 ·rintro w' ⟨s0, s1, s2, s3, s4, s5, s6, s7, s8, s9⟩
                  go_simp
                  with_reducible rfl
                 rotate_left
                 ·simp only [Act.put, List.setIfInBounds_toArray, List.set_cons_zero, List.set_cons_succ, i64_w, i32_w]
                  rfl
                 refine take_ (i := 4) (N := some 78) (v := ?_) (a' := ?_) #[true, true, true, true, true, false, true, true, true, true, false, false, false, false, false, false, false, false, false, false, false, false, false, false] rfl rfl (take_ofW HT_.out HW_.out (by kernel_rfl)) (fun _ _ _ h => h) (Or.inl ⟨by rfl, ?_⟩) hHeld ?_ ?_
                 rotate_left
                 ·rintro w' ⟨s0, s1, s2, s3, s4, s5, s6, s7, s8, s9⟩
                  go_simp
                  with_reducible rfl
                 rotate_left
                 ·simp only [Act.put, List.setIfInBounds_toArray, List.set_cons_zero, List.set_cons_succ, i64_w, i32_w]
                  rfl
                 refine take_ (i := 10) (N := some 84) (v := ?_) (a' := ?_) #[true, true, true, true, true, false, true, true, true, true, true, false, false, false, false, false, false, false, false, false, false, false, false, false] rfl rfl (take_ofW HT_.out HW_.out (by kernel_rfl)) (fun _ _ _ h => h) (Or.inl ⟨by rfl, ?_⟩) hHeld ?_ ?_
                 rotate_left
                 ·rintro w' ⟨s0, s1, s2, s3, s4, s5, s6, s7, s8, s9⟩
                  go_simp
                  with_reducible rfl
                 rotate_left
                 ·simp only [Act.put, List.setIfInBounds_toArray, List.set_cons_zero, List.set_cons_succ, i64_w, i32_w]
                  rfl
                 refine one_ (i := 5) (N := some 79) #[true, true, true, true, true, true, true, true, true, true, true, false, false, false, false, false, false, false, false, false, false, false, false, false] rfl rfl (one_of HT_.out (by kernel_rfl)) (by decide) (fun K hK => ?_);refine goes_ Tryd.func57 (by kernel_rfl) rfl #[.agg #[.int .i64 t343, .int .i64 t344, .int .i64 t345, .int .i64 t346, .slice Ao14 t347.length co14, .slice Ao15 t350.length co15, .slice Ao16 t353.length co16], .int .i64 (rd x5_1 x9_2)] (by rfl) rfl rfl (by (try simp only [List.map_toArray, List.map_cons, List.map_nil]); first | done | rfl | (simp only [List.length_drop, List.length_take]; rfl)) ?_
                 with_reducible refine (impl_Often.calls kj36 t343 t344 t345 t346 _ _ t347 _ _ t350 _ _ t353 (rd x5_1 x9_2) t388 _ ?side1 ?side2 ?side3 ?side4 ?side5 ?side6 A44.out).mono ?_
                 (case side1 => repeat (first | exact (Kd.R_reads' HO_357004.out).2.2 | (with_reducible refine Kd.C_alloc ?_ _) | (with_reducible refine Kd.C_drewN ?_ _) | (with_reducible refine Kd.C_drew ?_)))
                 (case side2 => exact (Kd.R_reads' HO_357004.out).2.1)
                 (case side3 => repeat (first | exact (Kd.R_reads' HO_357005.out).2.2 | (with_reducible refine Kd.C_alloc ?_ _) | (with_reducible refine Kd.C_drewN ?_ _) | (with_reducible refine Kd.C_drew ?_)))
                 (case side4 => exact (Kd.R_reads' HO_357005.out).2.1)
                 (case side5 => repeat (first | exact (Kd.S_reads' HO_357006.out).2.2 | (with_reducible refine Kd.C_alloc ?_ _) | (with_reducible refine Kd.C_drewN ?_ _) | (with_reducible refine Kd.C_drew ?_)))
                 (case side6 => exact (Kd.S_reads' HO_357006.out).2.1)
                 rintro e w50 ⟨rfl, hb⟩
                 have HS7_ := (hb.cell (World.block_lt_of_cell? _ _ (hHeld.2.2.2.2.2.2.2.1))).trans (hHeld.2.2.2.2.2.2.2.1);have HS8_ := (hb.cell (World.block_lt_of_cell? _ _ (hHeld.2.2.2.2.2.2.2.2.1))).trans (hHeld.2.2.2.2.2.2.2.2.1);have HS9_ := (hb.cell (World.block_lt_of_cell? _ _ (hHeld.2.2.2.2.2.2.2.2.2))).trans (hHeld.2.2.2.2.2.2.2.2.2);refine ⟨_, rfl, ?_⟩;have n0_ := Aside0.mk (Kd.R_below (by (with_reducible repeat (first | apply Kd.R_alloc | apply Kd.R_drewN | apply Kd.R_drew)); exact HO_5.out) hb);have n1_ := Aside0.mk (Kd.R_below (by (with_reducible repeat (first | apply Kd.R_alloc | apply Kd.R_drewN | apply Kd.R_drew)); exact HO_357004.out) hb);have n2_ := Aside0.mk (Kd.R_below (by (with_reducible repeat (first | apply Kd.R_alloc | apply Kd.R_drewN | apply Kd.R_drew)); exact HO_357005.out) hb);have n3_ := Aside0.mk (Kd.S_below (by (with_reducible repeat (first | apply Kd.S_alloc | apply Kd.S_drewN | apply Kd.S_drew)); exact HO_357006.out) hb);have n4_ := Aside0.mk (blk_below (g := gb356) (o := .cells #[.int .i64 t343, .int .i64 t344, .int .i64 t345, .int .i64 t346, .slice Ao14 t347.length co14, .slice Ao15 t350.length co15, .slice Ao16 t353.length co16] 43 (0, 0)) (by (with_reducible repeat (first | refine blk_drewN ?_ _ | refine blk_drew ?_ | refine blk_alloc ?_ _)); exact BK356.out) hb);have n5_ := Aside0.mk (Kd.C_below (by repeat (first | (with_reducible exact HR384.out) | (with_reducible refine Kd.C_alloc ?_ _) | (with_reducible refine Kd.C_drewN ?_ _) | (with_reducible refine Kd.C_drew ?_) | exact HR384.out)) hb);have n6_ := Aside0.mk (below_step (by repeat (first | (with_reducible first | exact HB.out | apply below_alloc | apply pw_below_drewN | apply below_drew1 | refine below_set ?_ GE356.out) | exact HB.out)) hb);clear HO_5;clear HO_357004;clear HO_357005;clear HO_357006;clear BK356;clear HR384;clear HB;have HO_5 := n0_;have HO_357004 := n1_;have HO_357005 := n2_;have HO_357006 := n3_;have BK356 := n4_;have HR384 := n5_;have HB := n6_;clear n0_ n1_ n2_ n3_ n4_ n5_ n6_
                 (try clear hb)
                 (try clear hb2)
                 (try clear hk)
                 (try clear hi)
                 refine hK.out _ _ ⟨(blk_cell BK356.out 0).trans rfl, (blk_cell BK356.out 1).trans rfl, (blk_cell BK356.out 2).trans rfl, (blk_cell BK356.out 3).trans rfl, (blk_cell BK356.out 4).trans rfl, (blk_cell BK356.out 5).trans rfl, (blk_cell BK356.out 6).trans rfl, HS7_, HS8_, HS9_⟩ (fun hHeld => ?_);clear hK K;refine norm_ (a' := ?_) ?_ ?_
                 rotate_left
                 ·show Act.put _ (some 79) _ = _
                  simp only [Act.put, List.setIfInBounds_toArray, List.set_cons_zero, List.set_cons_succ, i64_w, i32_w]
                  rfl
                 refine one_ (i := 11) (N := some 85) #[true, true, true, true, true, true, true, true, true, true, true, true, false, false, false, false, false, false, false, false, false, false, false, false] rfl rfl (one_of HT_.out (by kernel_rfl)) (by decide) (fun K hK => ?_);refine goes_ Tryd.func56 (by kernel_rfl) rfl #[.slice (some ad380) x5_1.length co38, .int .i64 (rd x5_1 x9_2)] (by rfl) rfl rfl (by (try simp only [List.map_toArray, List.map_cons, List.map_nil]); first | done | rfl | (simp only [List.length_drop, List.length_take]; rfl)) ?_
                 with_reducible refine (laws_times.calls kj36 _ _ x5_1 (rd x5_1 x9_2) t390 _ ?side1 ?side2 A45.out).mono ?_
                 (case side1 => repeat (first | exact (Kd.R_reads' HO_5.out).2.2 | (with_reducible refine Kd.C_alloc ?_ _) | (with_reducible refine Kd.C_drewN ?_ _) | (with_reducible refine Kd.C_drew ?_)))
                 (case side2 => exact (Kd.R_reads' HO_5.out).2.1)
                 rintro e w' ⟨rfl, ⟨nd, rfl⟩⟩
                 refine ⟨_, rfl, ?_⟩;refine hK.out _ _ ⟨(blk_cell BK356.out 0).trans rfl, (blk_cell BK356.out 1).trans rfl, (blk_cell BK356.out 2).trans rfl, (blk_cell BK356.out 3).trans rfl, (blk_cell BK356.out 4).trans rfl, (blk_cell BK356.out 5).trans rfl, (blk_cell BK356.out 6).trans rfl, hHeld.2.2.2.2.2.2.2.1, hHeld.2.2.2.2.2.2.2.2.1, hHeld.2.2.2.2.2.2.2.2.2⟩ (fun hHeld => ?_);clear hK K;refine norm_ (a' := ?_) ?_ ?_
                 rotate_left
                 ·show Act.put _ (some 85) _ = _
                  simp only [Act.put, List.setIfInBounds_toArray, List.set_cons_zero, List.set_cons_succ, i64_w, i32_w]
                  rfl
                 refine pure_ (i := 12) (N := some 86) (v := ?_) (a' := ?_) #[true, true, true, true, true, true, true, true, true, true, true, true, true, false, false, false, false, false, false, false, false, false, false, false] rfl rfl (any_of HT_.out (by kernel_rfl)) (fun _ _ _ h => h) (Or.inl ⟨by rfl, ?_⟩) ?_ ?_
                 rotate_left
                 ·intro w'
                  go_simp
                  with_reducible rfl
                 rotate_left
                 ·simp only [Act.put, List.setIfInBounds_toArray, List.set_cons_zero, List.set_cons_succ, i64_w, i32_w]
                  rfl
                 refine pure_ (i := 13) (N := some 87) (v := ?_) (a' := ?_) #[true, true, true, true, true, true, true, true, true, true, true, true, true, true, false, false, false, false, false, false, false, false, false, false] rfl rfl (any_of HT_.out (by kernel_rfl)) (fun _ _ _ h => h) (Or.inl ⟨by rfl, ?_⟩) ?_ ?_
                 rotate_left
                 ·intro w'
                  go_simp
                  with_reducible rfl
                 rotate_left
                 ·simp only [Act.put, List.setIfInBounds_toArray, List.set_cons_zero, List.set_cons_succ, i64_w, i32_w]
                  rfl
                 refine pure_ (i := 15) (N := some 89) (v := ?_) (a' := ?_) #[true, true, true, true, true, true, true, true, true, true, true, true, true, true, false, true, false, false, false, false, false, false, false, false] rfl rfl (any_of HT_.out (by kernel_rfl)) (fun _ _ _ h => h) (Or.inl ⟨by rfl, ?_⟩) ?_ ?_
                 rotate_left
                 ·intro w'
                  go_simp
                  with_reducible rfl
                 rotate_left
                 ·simp only [Act.put, List.setIfInBounds_toArray, List.set_cons_zero, List.set_cons_succ, i64_w, i32_w]
                  rfl
                 refine pure_ (i := 16) (N := some 90) (v := ?_) (a' := ?_) #[true, true, true, true, true, true, true, true, true, true, true, true, true, true, false, true, true, false, false, false, false, false, false, false] rfl rfl (any_of HT_.out (by kernel_rfl)) (fun _ _ _ h => h) (Or.inl ⟨by rfl, ?_⟩) ?_ ?_
                 rotate_left
                 ·intro w'
                  go_simp
                  with_reducible rfl
                 rotate_left
                 ·simp only [Act.put, List.setIfInBounds_toArray, List.set_cons_zero, List.set_cons_succ, i64_w, i32_w]
                  rfl
                 refine pure_ (i := 17) (N := some 91) (v := ?_) (a' := ?_) #[true, true, true, true, true, true, true, true, true, true, true, true, true, true, false, true, true, true, false, false, false, false, false, false] rfl rfl (any_of HT_.out (by kernel_rfl)) (fun _ _ _ h => h) (Or.inl ⟨by rfl, ?_⟩) ?_ ?_
                 rotate_left
                 ·intro w'
                  go_simp
                  with_reducible rfl
                 rotate_left
                 ·simp only [Act.put, List.setIfInBounds_toArray, List.set_cons_zero, List.set_cons_succ, i64_w, i32_w]
                  rfl
                 refine pure_ (i := 20) (N := some 94) (v := ?_) (a' := ?_) #[true, true, true, true, true, true, true, true, true, true, true, true, true, true, false, true, true, true, false, false, true, false, false, false] rfl rfl (any_of HT_.out (by kernel_rfl)) (fun _ _ _ h => h) (Or.inl ⟨by rfl, ?_⟩) ?_ ?_
                 rotate_left
                 ·intro w'
                  go_simp
                  with_reducible rfl
                 rotate_left
                 ·simp only [Act.put, List.setIfInBounds_toArray, List.set_cons_zero, List.set_cons_succ, i64_w, i32_w]
                  rfl
                 refine pure_ (i := 21) (N := some 95) (v := ?_) (a' := ?_) #[true, true, true, true, true, true, true, true, true, true, true, true, true, true, false, true, true, true, false, false, true, true, false, false] rfl rfl (any_of HT_.out (by kernel_rfl)) (fun _ _ _ h => h) (Or.inl ⟨by rfl, ?_⟩) ?_ ?_
                 rotate_left
                 ·intro w'
                  go_simp
                  with_reducible rfl
                 rotate_left
                 ·simp only [Act.put, List.setIfInBounds_toArray, List.set_cons_zero, List.set_cons_succ, i64_w, i32_w]
                  rfl
                 refine take_ (i := 14) (N := some 88) (v := ?_) (a' := ?_) #[true, true, true, true, true, true, true, true, true, true, true, true, true, true, true, true, true, true, false, false, true, true, false, false] rfl rfl (take_ofW HT_.out HW_.out (by kernel_rfl)) (fun _ _ _ h => h) (Or.inl ⟨by rfl, ?_⟩) hHeld ?_ ?_
                 rotate_left
                 ·rintro w' ⟨s0, s1, s2, s3, s4, s5, s6, s7, s8, s9⟩
                  go_simp
                  with_reducible rfl
                 rotate_left
                 ·simp only [Act.put, List.setIfInBounds_toArray, List.set_cons_zero, List.set_cons_succ, i64_w, i32_w]
                  rfl
                 refine take_ (i := 18) (N := some 92) (v := ?_) (a' := ?_) #[true, true, true, true, true, true, true, true, true, true, true, true, true, true, true, true, true, true, true, false, true, true, false, false] rfl rfl (take_ofW HT_.out HW_.out (by kernel_rfl)) (fun _ _ _ h => h) (Or.inl ⟨by rfl, ?_⟩) hHeld ?_ ?_
                 rotate_left
                 ·rintro w' ⟨s0, s1, s2, s3, s4, s5, s6, s7, s8, s9⟩
                  go_simp
                  with_reducible rfl
                 rotate_left
                 ·simp only [Act.put, List.setIfInBounds_toArray, List.set_cons_zero, List.set_cons_succ, i64_w, i32_w]
                  rfl
                 refine one_ (i := 19) (N := some 93) #[true, true, true, true, true, true, true, true, true, true, true, true, true, true, true, true, true, true, true, true, true, true, false, false] rfl rfl (one_of HT_.out (by kernel_rfl)) (by decide) (fun K hK => ?_);refine goes_ Tryd.func57 (by kernel_rfl) rfl #[.agg #[.int .i64 t343, .int .i64 t344, .int .i64 t345, .int .i64 t346, .slice Ao14 t347.length co14, .slice Ao15 t350.length co15, .slice Ao16 t353.length co16], .int .i64 (rd x5_1 x9_2)] (by rfl) rfl rfl (by (try simp only [List.map_toArray, List.map_cons, List.map_nil]); first | done | rfl | (simp only [List.length_drop, List.length_take]; rfl)) ?_
                 with_reducible refine (impl_Often.calls kj36 t343 t344 t345 t346 _ _ t347 _ _ t350 _ _ t353 (rd x5_1 x9_2) t392 _ ?side1 ?side2 ?side3 ?side4 ?side5 ?side6 A47.out).mono ?_
                 (case side1 => repeat (first | exact (Kd.R_reads' HO_357004.out).2.2 | (with_reducible refine Kd.C_alloc ?_ _) | (with_reducible refine Kd.C_drewN ?_ _) | (with_reducible refine Kd.C_drew ?_)))
                 (case side2 => exact (Kd.R_reads' HO_357004.out).2.1)
                 (case side3 => repeat (first | exact (Kd.R_reads' HO_357005.out).2.2 | (with_reducible refine Kd.C_alloc ?_ _) | (with_reducible refine Kd.C_drewN ?_ _) | (with_reducible refine Kd.C_drew ?_)))
                 (case side4 => exact (Kd.R_reads' HO_357005.out).2.1)
                 (case side5 => repeat (first | exact (Kd.S_reads' HO_357006.out).2.2 | (with_reducible refine Kd.C_alloc ?_ _) | (with_reducible refine Kd.C_drewN ?_ _) | (with_reducible refine Kd.C_drew ?_)))
                 (case side6 => exact (Kd.S_reads' HO_357006.out).2.1)
                 rintro e w51 ⟨rfl, hb⟩
                 have HS7_ := (hb.cell (World.block_lt_of_cell? _ _ (hHeld.2.2.2.2.2.2.2.1))).trans (hHeld.2.2.2.2.2.2.2.1);have HS8_ := (hb.cell (World.block_lt_of_cell? _ _ (hHeld.2.2.2.2.2.2.2.2.1))).trans (hHeld.2.2.2.2.2.2.2.2.1);have HS9_ := (hb.cell (World.block_lt_of_cell? _ _ (hHeld.2.2.2.2.2.2.2.2.2))).trans (hHeld.2.2.2.2.2.2.2.2.2);refine ⟨_, rfl, ?_⟩;have n0_ := Aside0.mk (Kd.R_below (by (with_reducible repeat (first | apply Kd.R_alloc | apply Kd.R_drewN | apply Kd.R_drew)); exact HO_5.out) hb);have n1_ := Aside0.mk (Kd.R_below (by (with_reducible repeat (first | apply Kd.R_alloc | apply Kd.R_drewN | apply Kd.R_drew)); exact HO_357004.out) hb);have n2_ := Aside0.mk (Kd.R_below (by (with_reducible repeat (first | apply Kd.R_alloc | apply Kd.R_drewN | apply Kd.R_drew)); exact HO_357005.out) hb);have n3_ := Aside0.mk (Kd.S_below (by (with_reducible repeat (first | apply Kd.S_alloc | apply Kd.S_drewN | apply Kd.S_drew)); exact HO_357006.out) hb);have n4_ := Aside0.mk (blk_below (g := gb356) (o := .cells #[.int .i64 t343, .int .i64 t344, .int .i64 t345, .int .i64 t346, .slice Ao14 t347.length co14, .slice Ao15 t350.length co15, .slice Ao16 t353.length co16] 43 (0, 0)) (by (with_reducible repeat (first | refine blk_drewN ?_ _ | refine blk_drew ?_ | refine blk_alloc ?_ _)); exact BK356.out) hb);have n5_ := Aside0.mk (Kd.C_below (by repeat (first | (with_reducible exact HR384.out) | (with_reducible refine Kd.C_alloc ?_ _) | (with_reducible refine Kd.C_drewN ?_ _) | (with_reducible refine Kd.C_drew ?_) | exact HR384.out)) hb);have n6_ := Aside0.mk (below_step (by repeat (first | (with_reducible first | exact HB.out | apply below_alloc | apply pw_below_drewN | apply below_drew1 | refine below_set ?_ GE356.out) | exact HB.out)) hb);clear HO_5;clear HO_357004;clear HO_357005;clear HO_357006;clear BK356;clear HR384;clear HB;have HO_5 := n0_;have HO_357004 := n1_;have HO_357005 := n2_;have HO_357006 := n3_;have BK356 := n4_;have HR384 := n5_;have HB := n6_;clear n0_ n1_ n2_ n3_ n4_ n5_ n6_
                 (try clear hb)
                 (try clear hb2)
                 (try clear hk)
                 (try clear hi)
                 refine hK.out _ _ ⟨(blk_cell BK356.out 0).trans rfl, (blk_cell BK356.out 1).trans rfl, (blk_cell BK356.out 2).trans rfl, (blk_cell BK356.out 3).trans rfl, (blk_cell BK356.out 4).trans rfl, (blk_cell BK356.out 5).trans rfl, (blk_cell BK356.out 6).trans rfl, HS7_, HS8_, HS9_⟩ (fun hHeld => ?_);clear hK K;refine norm_ (a' := ?_) ?_ ?_
                 rotate_left
                 ·show Act.put _ (some 93) _ = _
                  simp only [Act.put, List.setIfInBounds_toArray, List.set_cons_zero, List.set_cons_succ, i64_w, i32_w]
                  rfl
                 refine pure_ (i := 22) (N := some 96) (v := ?_) (a' := ?_) #[true, true, true, true, true, true, true, true, true, true, true, true, true, true, true, true, true, true, true, true, true, true, true, false] rfl rfl (any_of HT_.out (by kernel_rfl)) (fun _ _ _ h => h) (Or.inl ⟨by rfl, ?_⟩) ?_ ?_
                 rotate_left
                 ·intro w'
                  go_simp
                  with_reducible rfl
                 rotate_left
                 ·simp only [Act.put, List.setIfInBounds_toArray, List.set_cons_zero, List.set_cons_succ, i64_w, i32_w]
                  rfl
                 refine pure_ (i := 23) (N := some 97) (v := ?_) (a' := ?_) #[true, true, true, true, true, true, true, true, true, true, true, true, true, true, true, true, true, true, true, true, true, true, true, true] rfl rfl (any_of HT_.out (by kernel_rfl)) (fun _ _ _ h => h) (Or.inl ⟨by rfl, ?_⟩) ?_ ?_
                 rotate_left
                 ·intro w'
                  go_simp
                  with_reducible rfl
                 rotate_left
                 ·simp only [Act.put, List.setIfInBounds_toArray, List.set_cons_zero, List.set_cons_succ, i64_w, i32_w]
                  rfl
                 refine done_ (done_of HT_.out (by kernel_rfl)) ?_
                 try go_wp2
                 go_roundg kj36
                 case measure => have := HK1.out; have := HK2.out; have := HJ36.out; omega
                 case rel => exact ⟨(x7_36), ((wrap64 (x8_2 + (rd x5_1 x9_2)))), (wrap64 (x9_2 + 1)), (by first | rfl | (simp; done) | (simp [*]; done)), (by first | rfl | (simp; done) | (simp [*]; done)), (by first | rfl | (simp; done) | (simp [*]; done)), H', ⟨by have := HK1.out; have := HK2.out; have := HJ36.out; omega⟩, ⟨by (with_reducible repeat (first | apply Kd.R_alloc | apply Kd.R_drewN | apply Kd.R_drew)); exact HO_5.out⟩, ⟨by (with_reducible repeat (first | apply Kd.R_alloc | apply Kd.R_drewN | apply Kd.R_drew)); exact HO_357004.out⟩, ⟨by (with_reducible repeat (first | apply Kd.R_alloc | apply Kd.R_drewN | apply Kd.R_drew)); exact HO_357005.out⟩, ⟨by (with_reducible repeat (first | apply Kd.S_alloc | apply Kd.S_drewN | apply Kd.S_drew)); exact HO_357006.out⟩, ⟨by (with_reducible repeat (first | refine blk_drewN ?_ _ | refine blk_drew ?_ | refine blk_alloc ?_ _)); exact BK356.out⟩, ⟨by repeat (first | (with_reducible first | exact HB.out | apply below_alloc | apply pw_below_drewN | apply below_drew1 | refine below_set ?_ GE356.out) | exact HB.out)⟩⟩
              ·rw [if_neg c43] at H
               exact absurd H (by simp)
             ·rw [if_neg c42] at H
              exact absurd H (by simp)
          ·rw [if_neg c35] at H
           exact absurd H (by simp)
         ·rw [if_neg c33] at H
          exact absurd H (by simp)
        ·rw [if_neg c32] at H
         have c32b0 : decide (x9_2 < (x5_1.length : Int)) = false := decide_eq_false c32;clear c32;have HC52 := Aside0.mk H;clear H;obtain ⟨Ao53, co53, eo53⟩ := Kd.R_slice HO_5.out;subst eo53
         go_upto_region 23 with (fail)
         go_cut [110] (fun v110 wc => ∃ (kq : Nat) (x110_51 : Bool), v110 = .bool x110_51 ∧ Aside0 (laws_FnTells.j3 kq x5_1 x8_2 x110_51 t343 t344 t345 t346 t347 t350 t353 = some r) ∧ Aside0 (kq ≤ k2) ∧ Aside0 (Kd.R (Kd.int .i64) 3 wc w.heap.size (fun k_ => some k_ ≠ ((.slice Ao14 t347.length co14) : Value).ownBlock ∧ some k_ ≠ ((.slice Ao15 t350.length co15) : Value).ownBlock) (.slice Ao53 x5_1.length co53) x5_1) ∧ Aside0 (Kd.R (Kd.int .i64) 3 wc w.heap.size (fun k_ => some k_ ≠ ((.slice Ao53 x5_1.length co53) : Value).ownBlock ∧ some k_ ≠ ((.slice Ao15 t350.length co15) : Value).ownBlock) (.slice Ao14 t347.length co14) t347) ∧ Aside0 (Kd.R (Kd.int .i64) 3 wc w.heap.size (fun k_ => some k_ ≠ ((.slice Ao53 x5_1.length co53) : Value).ownBlock ∧ some k_ ≠ ((.slice Ao14 t347.length co14) : Value).ownBlock) (.slice Ao15 t350.length co15) t350) ∧ Aside0 (Kd.S (Kd.slice 3 (Kd.int .i64)) 39 wc w.heap.size (fun k_ => some k_ ≠ ((.slice Ao53 x5_1.length co53) : Value).ownBlock ∧ some k_ ≠ ((.slice Ao14 t347.length co14) : Value).ownBlock ∧ some k_ ≠ ((.slice Ao15 t350.length co15) : Value).ownBlock) (.slice Ao16 t353.length co16) t353) ∧ Aside0 (wc.heap[gb356]? = some (.cells #[.int .i64 t343, .int .i64 t344, .int .i64 t345, .int .i64 t346, (.slice Ao14 t347.length co14), (.slice Ao15 t350.length co15), (.slice Ao16 t353.length co16)] 43 (0, 0))) ∧ Aside0 (Below w.heap.size w wc))
         case first =>
          have H := HC52.out;clear HC52;replace H := Option.bind_eq_some_iff.mp H;obtain ⟨t393, A540, H⟩ := H;replace H : (if t393 > x7_2 then (laws_FnTells.j3 k2 x5_1 x8_2 true t343 t344 t345 t346 t347 t350 t353) else ((impl_Different.f k2 t343 t344 t345 t346 t347 t350 t353).bind fun t394 => (laws_FnTells.j3 k2 x5_1 x8_2 ((t394 == 0) != ((x5_1.length : Int) == 0)) t343 t344 t345 t346 t347 t350 t353))) = some r := H;have A54 := Aside0.mk A540;clear A540
          by_cases c55 : t393 > x7_2
          ·rw [if_pos c55] at H
           have c55b0 : decide (x7_2 < t393) = true := decide_eq_true c55;clear c55
           (first | rw [c55b0] | (simp only [i64_w, i32_w]; rw [c55b0]) | rw [c55b1] | rw [c55b2] | rw [c55b3] | skip)
           have H' := Aside0.mk H;clear H;have hcz56_0 : wr.cell? ⟨gb356, 0, none⟩ = some (.int .i64 t343) := (blk_cell BK356.out 0).trans rfl;have hcz56_1 : wr.cell? ⟨gb356, 1, none⟩ = some (.int .i64 t344) := (blk_cell BK356.out 1).trans rfl;have hcz56_2 : wr.cell? ⟨gb356, 2, none⟩ = some (.int .i64 t345) := (blk_cell BK356.out 2).trans rfl;have hcz56_3 : wr.cell? ⟨gb356, 3, none⟩ = some (.int .i64 t346) := (blk_cell BK356.out 3).trans rfl;have hcz56_4 : wr.cell? ⟨gb356, 4, none⟩ = some (.slice Ao14 t347.length co14) := (blk_cell BK356.out 4).trans rfl;have hcz56_5 : wr.cell? ⟨gb356, 5, none⟩ = some (.slice Ao15 t350.length co15) := (blk_cell BK356.out 5).trans rfl;have hcz56_6 : wr.cell? ⟨gb356, 6, none⟩ = some (.slice Ao16 t353.length co16) := (blk_cell BK356.out 6).trans rfl;have hfz56_0 := blk_frozen BK356.out 0;have hfz56_1 := blk_frozen BK356.out 1;have hfz56_2 := blk_frozen BK356.out 2;have hfz56_3 := blk_frozen BK356.out 3;have hfz56_4 := blk_frozen BK356.out 4;have hfz56_5 := blk_frozen BK356.out 5;have hfz56_6 := blk_frozen BK356.out 6
           go_wp2_with (first | ((with_reducible refine gate_callee (f := 58) rfl ?_); refine goesL_ (some 99) rfl rfl Tryd.func58 (by kernel_rfl) rfl #[.agg #[.int .i64 t343, .int .i64 t344, .int .i64 t345, .int .i64 t346, .slice Ao14 t347.length co14, .slice Ao15 t350.length co15, .slice Ao16 t353.length co16]] rfl (by (try simp only [List.map_toArray, List.map_cons, List.map_nil]); first | done | rfl | (simp only [List.length_drop, List.length_take]; rfl)) ?_; (with_reducible refine (impl_Different.calls k2 t343 t344 t345 t346 _ _ t347 _ _ t350 _ _ t353 t393 _ ?side1 ?side2 ?side3 ?side4 ?side5 ?side6 A54.out).mono ?_); (case side1 => repeat (first | exact (Kd.R_reads' HO_357004.out).2.2 | (with_reducible refine Kd.C_alloc ?_ _) | (with_reducible refine Kd.C_drewN ?_ _) | (with_reducible refine Kd.C_drew ?_))); (case side2 => exact (Kd.R_reads' HO_357004.out).2.1); (case side3 => repeat (first | exact (Kd.R_reads' HO_357005.out).2.2 | (with_reducible refine Kd.C_alloc ?_ _) | (with_reducible refine Kd.C_drewN ?_ _) | (with_reducible refine Kd.C_drew ?_))); (case side4 => exact (Kd.R_reads' HO_357005.out).2.1); (case side5 => repeat (first | exact (Kd.S_reads' HO_357006.out).2.2 | (with_reducible refine Kd.C_alloc ?_ _) | (with_reducible refine Kd.C_drewN ?_ _) | (with_reducible refine Kd.C_drew ?_))); (case side6 => exact (Kd.S_reads' HO_357006.out).2.1); rintro e w57 ⟨rfl, hb⟩; refine ⟨_, rfl, ?_⟩; have n0_ := Aside0.mk (Kd.R_below (by (with_reducible repeat (first | apply Kd.R_alloc | apply Kd.R_drewN | apply Kd.R_drew)); exact HO_5.out) hb); have n1_ := Aside0.mk (Kd.R_below (by (with_reducible repeat (first | apply Kd.R_alloc | apply Kd.R_drewN | apply Kd.R_drew)); exact HO_357004.out) hb); have n2_ := Aside0.mk (Kd.R_below (by (with_reducible repeat (first | apply Kd.R_alloc | apply Kd.R_drewN | apply Kd.R_drew)); exact HO_357005.out) hb); have n3_ := Aside0.mk (Kd.S_below (by (with_reducible repeat (first | apply Kd.S_alloc | apply Kd.S_drewN | apply Kd.S_drew)); exact HO_357006.out) hb); have n4_ := Aside0.mk (blk_below (g := gb356) (o := .cells #[.int .i64 t343, .int .i64 t344, .int .i64 t345, .int .i64 t346, .slice Ao14 t347.length co14, .slice Ao15 t350.length co15, .slice Ao16 t353.length co16] 43 (0, 0)) (by (with_reducible repeat (first | refine blk_drewN ?_ _ | refine blk_drew ?_ | refine blk_alloc ?_ _)); exact BK356.out) hb); have n5_ := Aside0.mk (below_step (by repeat (first | (with_reducible first | exact HB.out | apply below_alloc | apply pw_below_drewN | apply below_drew1 | refine below_set ?_ GE356.out) | exact HB.out)) hb); clear HO_5; clear HO_357004; clear HO_357005; clear HO_357006; clear BK356; clear HB; have HO_5 := n0_; have HO_357004 := n1_; have HO_357005 := n2_; have HO_357006 := n3_; have BK356 := n4_; have HB := n5_; clear n0_ n1_ n2_ n3_ n4_ n5_; (try clear hb); (try clear hb2); (try clear hk); (try clear hi)))
           (first | go_meet | (refine Met.intro ?_; go_step; (repeat apply Exists.intro); refine ⟨?rel, ?eqs⟩; case eqs => ((try rw [show (!true) = true from by assumption]); (try rw [show (!true) = false from by assumption]); (try rw [show (decide (x6_1 < (t340.length : Int))) = true from by assumption]); (try rw [show (decide (x6_1 < (t340.length : Int))) = false from by assumption]); (try rw [show (decide (x9_2 < (x5_1.length : Int))) = true from by assumption]); (try rw [show (decide (x9_2 < (x5_1.length : Int))) = false from by assumption]); (try rw [show (decide (t393 > x7_2)) = true from by assumption]); (try rw [show (decide (t393 > x7_2)) = false from by assumption]); (try rfl))))
           case rel => exact ⟨_, (true), (by first | rfl | (simp; done) | (simp [*]; done)), H', ⟨by have := HK1.out; have := HK2.out; first | omega | exact Nat.le_refl _⟩, ⟨by (with_reducible repeat (first | apply Kd.R_alloc | apply Kd.R_drewN | apply Kd.R_drew)); exact HO_5.out⟩, ⟨by (with_reducible repeat (first | apply Kd.R_alloc | apply Kd.R_drewN | apply Kd.R_drew)); exact HO_357004.out⟩, ⟨by (with_reducible repeat (first | apply Kd.R_alloc | apply Kd.R_drewN | apply Kd.R_drew)); exact HO_357005.out⟩, ⟨by (with_reducible repeat (first | apply Kd.S_alloc | apply Kd.S_drewN | apply Kd.S_drew)); exact HO_357006.out⟩, ⟨by (with_reducible repeat (first | refine blk_drewN ?_ _ | refine blk_drew ?_ | refine blk_alloc ?_ _)); exact BK356.out⟩, ⟨by repeat (first | (with_reducible first | exact HB.out | apply below_alloc | apply pw_below_drewN | apply below_drew1 | refine below_set ?_ GE356.out) | exact HB.out)⟩⟩
          ·rw [if_neg c55] at H
           have c55b0 : decide (x7_2 < t393) = false := decide_eq_false c55;clear c55
           (first | rw [c55b0] | (simp only [i64_w, i32_w]; rw [c55b0]) | rw [c55b1] | rw [c55b2] | rw [c55b3] | skip)
           replace H := Option.bind_eq_some_iff.mp H;obtain ⟨t394, A580, H⟩ := H;replace H : (laws_FnTells.j3 k2 x5_1 x8_2 ((t394 == 0) != ((x5_1.length : Int) == 0)) t343 t344 t345 t346 t347 t350 t353) = some r := H;have A58 := Aside0.mk A580;clear A580;have H' := Aside0.mk H;clear H;have hcz59_0 : wr.cell? ⟨gb356, 0, none⟩ = some (.int .i64 t343) := (blk_cell BK356.out 0).trans rfl;have hcz59_1 : wr.cell? ⟨gb356, 1, none⟩ = some (.int .i64 t344) := (blk_cell BK356.out 1).trans rfl;have hcz59_2 : wr.cell? ⟨gb356, 2, none⟩ = some (.int .i64 t345) := (blk_cell BK356.out 2).trans rfl;have hcz59_3 : wr.cell? ⟨gb356, 3, none⟩ = some (.int .i64 t346) := (blk_cell BK356.out 3).trans rfl;have hcz59_4 : wr.cell? ⟨gb356, 4, none⟩ = some (.slice Ao14 t347.length co14) := (blk_cell BK356.out 4).trans rfl;have hcz59_5 : wr.cell? ⟨gb356, 5, none⟩ = some (.slice Ao15 t350.length co15) := (blk_cell BK356.out 5).trans rfl;have hcz59_6 : wr.cell? ⟨gb356, 6, none⟩ = some (.slice Ao16 t353.length co16) := (blk_cell BK356.out 6).trans rfl;have hfz59_0 := blk_frozen BK356.out 0;have hfz59_1 := blk_frozen BK356.out 1;have hfz59_2 := blk_frozen BK356.out 2;have hfz59_3 := blk_frozen BK356.out 3;have hfz59_4 := blk_frozen BK356.out 4;have hfz59_5 := blk_frozen BK356.out 5;have hfz59_6 := blk_frozen BK356.out 6
           go_wp2_with (first | ((with_reducible refine gate_callee (f := 58) rfl ?_); refine goesL_ (some 99) rfl rfl Tryd.func58 (by kernel_rfl) rfl #[.agg #[.int .i64 t343, .int .i64 t344, .int .i64 t345, .int .i64 t346, .slice Ao14 t347.length co14, .slice Ao15 t350.length co15, .slice Ao16 t353.length co16]] rfl (by (try simp only [List.map_toArray, List.map_cons, List.map_nil]); first | done | rfl | (simp only [List.length_drop, List.length_take]; rfl)) ?_; (with_reducible refine (impl_Different.calls k2 t343 t344 t345 t346 _ _ t347 _ _ t350 _ _ t353 t393 _ ?side1 ?side2 ?side3 ?side4 ?side5 ?side6 A54.out).mono ?_); (case side1 => repeat (first | exact (Kd.R_reads' HO_357004.out).2.2 | (with_reducible refine Kd.C_alloc ?_ _) | (with_reducible refine Kd.C_drewN ?_ _) | (with_reducible refine Kd.C_drew ?_))); (case side2 => exact (Kd.R_reads' HO_357004.out).2.1); (case side3 => repeat (first | exact (Kd.R_reads' HO_357005.out).2.2 | (with_reducible refine Kd.C_alloc ?_ _) | (with_reducible refine Kd.C_drewN ?_ _) | (with_reducible refine Kd.C_drew ?_))); (case side4 => exact (Kd.R_reads' HO_357005.out).2.1); (case side5 => repeat (first | exact (Kd.S_reads' HO_357006.out).2.2 | (with_reducible refine Kd.C_alloc ?_ _) | (with_reducible refine Kd.C_drewN ?_ _) | (with_reducible refine Kd.C_drew ?_))); (case side6 => exact (Kd.S_reads' HO_357006.out).2.1); rintro e w60 ⟨rfl, hb⟩; refine ⟨_, rfl, ?_⟩; have n0_ := Aside0.mk (Kd.R_below (by (with_reducible repeat (first | apply Kd.R_alloc | apply Kd.R_drewN | apply Kd.R_drew)); exact HO_5.out) hb); have n1_ := Aside0.mk (Kd.R_below (by (with_reducible repeat (first | apply Kd.R_alloc | apply Kd.R_drewN | apply Kd.R_drew)); exact HO_357004.out) hb); have n2_ := Aside0.mk (Kd.R_below (by (with_reducible repeat (first | apply Kd.R_alloc | apply Kd.R_drewN | apply Kd.R_drew)); exact HO_357005.out) hb); have n3_ := Aside0.mk (Kd.S_below (by (with_reducible repeat (first | apply Kd.S_alloc | apply Kd.S_drewN | apply Kd.S_drew)); exact HO_357006.out) hb); have n4_ := Aside0.mk (blk_below (g := gb356) (o := .cells #[.int .i64 t343, .int .i64 t344, .int .i64 t345, .int .i64 t346, .slice Ao14 t347.length co14, .slice Ao15 t350.length co15, .slice Ao16 t353.length co16] 43 (0, 0)) (by (with_reducible repeat (first | refine blk_drewN ?_ _ | refine blk_drew ?_ | refine blk_alloc ?_ _)); exact BK356.out) hb); have n5_ := Aside0.mk (below_step (by repeat (first | (with_reducible first | exact HB.out | apply below_alloc | apply pw_below_drewN | apply below_drew1 | refine below_set ?_ GE356.out) | exact HB.out)) hb); clear HO_5; clear HO_357004; clear HO_357005; clear HO_357006; clear BK356; clear HB; have HO_5 := n0_; have HO_357004 := n1_; have HO_357005 := n2_; have HO_357006 := n3_; have BK356 := n4_; have HB := n5_; clear n0_ n1_ n2_ n3_ n4_ n5_; (try clear hb); (try clear hb2); (try clear hk); (try clear hi); have hcz61_0 : w60.cell? ⟨gb356, 0, none⟩ = some (.int .i64 t343) := (blk_cell BK356.out 0).trans rfl; have hcz61_1 : w60.cell? ⟨gb356, 1, none⟩ = some (.int .i64 t344) := (blk_cell BK356.out 1).trans rfl; have hcz61_2 : w60.cell? ⟨gb356, 2, none⟩ = some (.int .i64 t345) := (blk_cell BK356.out 2).trans rfl; have hcz61_3 : w60.cell? ⟨gb356, 3, none⟩ = some (.int .i64 t346) := (blk_cell BK356.out 3).trans rfl; have hcz61_4 : w60.cell? ⟨gb356, 4, none⟩ = some (.slice Ao14 t347.length co14) := (blk_cell BK356.out 4).trans rfl; have hcz61_5 : w60.cell? ⟨gb356, 5, none⟩ = some (.slice Ao15 t350.length co15) := (blk_cell BK356.out 5).trans rfl; have hcz61_6 : w60.cell? ⟨gb356, 6, none⟩ = some (.slice Ao16 t353.length co16) := (blk_cell BK356.out 6).trans rfl; have hfz61_0 := blk_frozen BK356.out 0; have hfz61_1 := blk_frozen BK356.out 1; have hfz61_2 := blk_frozen BK356.out 2; have hfz61_3 := blk_frozen BK356.out 3; have hfz61_4 := blk_frozen BK356.out 4; have hfz61_5 := blk_frozen BK356.out 5; have hfz61_6 := blk_frozen BK356.out 6) | (go_at_call 58; (with_reducible refine (impl_Different.calls k2 t343 t344 t345 t346 _ _ t347 _ _ t350 _ _ t353 t394 _ ?side1 ?side2 ?side3 ?side4 ?side5 ?side6 A58.out).mono ?_); (case side1 => repeat (first | exact (Kd.R_reads' HO_357004.out).2.2 | (with_reducible refine Kd.C_alloc ?_ _) | (with_reducible refine Kd.C_drewN ?_ _) | (with_reducible refine Kd.C_drew ?_))); (case side2 => exact (Kd.R_reads' HO_357004.out).2.1); (case side3 => repeat (first | exact (Kd.R_reads' HO_357005.out).2.2 | (with_reducible refine Kd.C_alloc ?_ _) | (with_reducible refine Kd.C_drewN ?_ _) | (with_reducible refine Kd.C_drew ?_))); (case side4 => exact (Kd.R_reads' HO_357005.out).2.1); (case side5 => repeat (first | exact (Kd.S_reads' HO_357006.out).2.2 | (with_reducible refine Kd.C_alloc ?_ _) | (with_reducible refine Kd.C_drewN ?_ _) | (with_reducible refine Kd.C_drew ?_))); (case side6 => exact (Kd.S_reads' HO_357006.out).2.1); rintro e w62 ⟨rfl, hb⟩; have n0_ := Aside0.mk (Kd.R_below (by (with_reducible repeat (first | apply Kd.R_alloc | apply Kd.R_drewN | apply Kd.R_drew)); exact HO_5.out) hb); have n1_ := Aside0.mk (Kd.R_below (by (with_reducible repeat (first | apply Kd.R_alloc | apply Kd.R_drewN | apply Kd.R_drew)); exact HO_357004.out) hb); have n2_ := Aside0.mk (Kd.R_below (by (with_reducible repeat (first | apply Kd.R_alloc | apply Kd.R_drewN | apply Kd.R_drew)); exact HO_357005.out) hb); have n3_ := Aside0.mk (Kd.S_below (by (with_reducible repeat (first | apply Kd.S_alloc | apply Kd.S_drewN | apply Kd.S_drew)); exact HO_357006.out) hb); have n4_ := Aside0.mk (blk_below (g := gb356) (o := .cells #[.int .i64 t343, .int .i64 t344, .int .i64 t345, .int .i64 t346, .slice Ao14 t347.length co14, .slice Ao15 t350.length co15, .slice Ao16 t353.length co16] 43 (0, 0)) (by (with_reducible repeat (first | refine blk_drewN ?_ _ | refine blk_drew ?_ | refine blk_alloc ?_ _)); exact BK356.out) hb); have n5_ := Aside0.mk (below_step (by repeat (first | (with_reducible first | exact HB.out | apply below_alloc | apply pw_below_drewN | apply below_drew1 | refine below_set ?_ GE356.out) | exact HB.out)) hb); clear HO_5; clear HO_357004; clear HO_357005; clear HO_357006; clear BK356; clear HB; have HO_5 := n0_; have HO_357004 := n1_; have HO_357005 := n2_; have HO_357006 := n3_; have BK356 := n4_; have HB := n5_; clear n0_ n1_ n2_ n3_ n4_ n5_; (try clear hb); (try clear hb2); (try clear hk); (try clear hi)))
           (first | go_meet | (refine Met.intro ?_; go_step; (repeat apply Exists.intro); refine ⟨?rel, ?eqs⟩; case eqs => ((try rw [show (!true) = true from by assumption]); (try rw [show (!true) = false from by assumption]); (try rw [show (decide (x6_1 < (t340.length : Int))) = true from by assumption]); (try rw [show (decide (x6_1 < (t340.length : Int))) = false from by assumption]); (try rw [show (decide (x9_2 < (x5_1.length : Int))) = true from by assumption]); (try rw [show (decide (x9_2 < (x5_1.length : Int))) = false from by assumption]); (try rw [show (decide (t393 > x7_2)) = true from by assumption]); (try rw [show (decide (t393 > x7_2)) = false from by assumption]); (try rw [show (t394 == 0) = true from by assumption]); (try rw [show (t394 == 0) = false from by assumption]); (try rw [show ((x5_1.length : Int) == 0) = true from by assumption]); (try rw [show ((x5_1.length : Int) == 0) = false from by assumption]); (try rw [show ((t394 == 0) != ((x5_1.length : Int) == 0)) = true from by assumption]); (try rw [show ((t394 == 0) != ((x5_1.length : Int) == 0)) = false from by assumption]); (try rfl))))
           case rel => exact ⟨_, (((t394 == 0) != ((x5_1.length : Int) == 0))), (by first | rfl | (simp; done) | (simp [*]; done)), H', ⟨by have := HK1.out; have := HK2.out; first | omega | exact Nat.le_refl _⟩, ⟨by (with_reducible repeat (first | apply Kd.R_alloc | apply Kd.R_drewN | apply Kd.R_drew)); exact HO_5.out⟩, ⟨by (with_reducible repeat (first | apply Kd.R_alloc | apply Kd.R_drewN | apply Kd.R_drew)); exact HO_357004.out⟩, ⟨by (with_reducible repeat (first | apply Kd.R_alloc | apply Kd.R_drewN | apply Kd.R_drew)); exact HO_357005.out⟩, ⟨by (with_reducible repeat (first | apply Kd.S_alloc | apply Kd.S_drewN | apply Kd.S_drew)); exact HO_357006.out⟩, ⟨by (with_reducible repeat (first | refine blk_drewN ?_ _ | refine blk_drew ?_ | refine blk_alloc ?_ _)); exact BK356.out⟩, ⟨by repeat (first | (with_reducible first | exact HB.out | apply below_alloc | apply pw_below_drewN | apply below_drew1 | refine below_set ?_ GE356.out) | exact HB.out)⟩⟩
         case rest =>
          clear HC52
          try clear c1
          try clear c2
          try clear p2
          try clear c3
          try clear p3
          try clear q3
          try clear hx3
          try clear c4
          try clear q4
          try clear c5
          try clear p6
          try clear c8
          try clear c12
          try clear c17
          try clear c26
          try clear c26b0
          try clear c27
          try clear c27b0
          try clear c28
          try clear c28b0
          try clear c29
          try clear c29b0
          try clear c30
          try clear c32
          try clear c32b0
          try clear c33
          try clear c33b0
          try clear c34
          try clear c34b0
          try clear c35
          try clear c35b0
          try clear c35b1
          try clear c36
          try clear c37
          try clear p37
          try clear q37
          try clear hx37
          try clear c38
          try clear p38
          try clear q38
          try clear hx38
          try clear p39
          try clear q39
          try clear hx39
          try clear q40
          try clear c41
          try clear c41b0
          try clear c41b1
          try clear c41b2
          try clear c42
          try clear c42b0
          try clear c43
          try clear c43b0
          try clear c46
          try clear c46b0
          try clear c48
          try clear c48b0
          try clear c55
          try clear c55b0
          try clear c55b1
          try clear c55b2
          try clear c56
          try clear c57
          try clear c58
          try clear hcz13_0
          try clear hcz13_1
          try clear hcz13_2
          try clear hcz13_3
          try clear hcz13_4
          try clear hcz13_5
          try clear hcz13_6
          try clear hcz56_0
          try clear hcz56_1
          try clear hcz56_2
          try clear hcz56_3
          try clear hcz56_4
          try clear hcz56_5
          try clear hcz56_6
          try clear hcz59_0
          try clear hcz59_1
          try clear hcz59_2
          try clear hcz59_3
          try clear hcz59_4
          try clear hcz59_5
          try clear hcz59_6
          try clear hcz61_0
          try clear hcz61_1
          try clear hcz61_2
          try clear hcz61_3
          try clear hcz61_4
          try clear hcz61_5
          try clear hcz61_6
          try clear hfz13_0
          try clear hfz13_1
          try clear hfz13_2
          try clear hfz13_3
          try clear hfz13_4
          try clear hfz13_5
          try clear hfz13_6
          try clear hfz56_0
          try clear hfz56_1
          try clear hfz56_2
          try clear hfz56_3
          try clear hfz56_4
          try clear hfz56_5
          try clear hfz56_6
          try clear hfz59_0
          try clear hfz59_1
          try clear hfz59_2
          try clear hfz59_3
          try clear hfz59_4
          try clear hfz59_5
          try clear hfz59_6
          try clear hfz61_0
          try clear hfz61_1
          try clear hfz61_2
          try clear hfz61_3
          try clear hfz61_4
          try clear hfz61_5
          try clear hfz61_6
          try clear hx374_0
          try clear hx375_0
          try clear hx376_0
          try clear hx380_0
          try clear hx385_0
          try clear hx387_0
          try clear hx389_0
          try clear hx391_0
          try clear p2
          try clear p3
          try clear p37
          try clear p374
          try clear p375
          try clear p376
          try clear p38
          try clear p380
          try clear p385
          try clear p387
          try clear p389
          try clear p391
          try clear p6
          try clear q3
          try clear q37
          try clear q374
          try clear q375
          try clear q376
          try clear q38
          try clear q380
          try clear q385
          try clear q387
          try clear q389
          try clear q391
          try clear q4
          try clear q40
          obtain ⟨kq, x110_51, rfl, HA, HJ51, HO_5, HO_357004, HO_357005, HO_357006, BK356, HB⟩ := hcut
          cases kq with
          | zero => exact absurd HA.out (by simp [laws_FnTells.j3])
          | succ kj51 =>
           have H := HA.out;clear HA;simp only [laws_FnTells.j3] at H
           by_cases c63 : x110_51 = true
           ·subst c63
            have H1 : (some false) = some r := by rw [if_pos rfl] at H; exact H
            clear H;have H := H1;clear H1;obtain rfl := Option.some.inj H;exact absurd hrt.out (by decide)
           ·replace c63 := Bool.eq_false_iff.mpr c63
            subst c63
            have H1 : (if (x5_1.length : Int) = 0 then (if t343 = 0 then ((impl_Mean.f kj51 t343 t344 t345 t346 t347 t350 t353).bind fun t395 => (some (t395 == 0))) else (some false)) else ((impl_Quantile.f kj51 t343 t344 t345 t346 t347 t350 t353 1000).bind fun bt396 => (if bt396.1 > t346 then (laws_FnTells.j4 kj51 x5_1 x8_2 true t343 t344 t345 t346 t347 t350 t353) else (laws_FnTells.j4 kj51 x5_1 x8_2 (decide (bt396.2 < t346)) t343 t344 t345 t346 t347 t350 t353)))) = some r := by rw [if_neg (show ¬ (false = true) by decide)] at H; exact H
            clear H;have H := H1;clear H1
            by_cases c64 : (x5_1.length : Int) = 0
            ·rw [if_pos c64] at H
             have c64b0 : ((x5_1.length : Int) == 0) = true := beq_iff_eq.mpr c64;have c64b1 : ((x5_1.length : Int) != 0) = false := bne_eq_false_iff_eq.mpr c64;clear c64
             by_cases c65 : t343 = 0
             ·rw [if_pos c65] at H
              have c65b0 : (t343 == 0) = true := beq_iff_eq.mpr c65;have c65b1 : (t343 != 0) = false := bne_eq_false_iff_eq.mpr c65;clear c65;replace H := Option.bind_eq_some_iff.mp H;obtain ⟨t395, A660, H⟩ := H;replace H : (some (t395 == 0)) = some r := H;have A66 := Aside0.mk A660;clear A660;obtain rfl := Option.some.inj H;simp only [Option.some.injEq, Prod.mk.injEq] at H;obtain ⟨rfl⟩ := H;have hcz67_0 : wc.cell? ⟨gb356, 0, none⟩ = some (.int .i64 t343) := (blk_cell BK356.out 0).trans rfl;have hcz67_1 : wc.cell? ⟨gb356, 1, none⟩ = some (.int .i64 t344) := (blk_cell BK356.out 1).trans rfl;have hcz67_2 : wc.cell? ⟨gb356, 2, none⟩ = some (.int .i64 t345) := (blk_cell BK356.out 2).trans rfl;have hcz67_3 : wc.cell? ⟨gb356, 3, none⟩ = some (.int .i64 t346) := (blk_cell BK356.out 3).trans rfl;have hcz67_4 : wc.cell? ⟨gb356, 4, none⟩ = some (.slice Ao14 t347.length co14) := (blk_cell BK356.out 4).trans rfl;have hcz67_5 : wc.cell? ⟨gb356, 5, none⟩ = some (.slice Ao15 t350.length co15) := (blk_cell BK356.out 5).trans rfl;have hcz67_6 : wc.cell? ⟨gb356, 6, none⟩ = some (.slice Ao16 t353.length co16) := (blk_cell BK356.out 6).trans rfl;have hfz67_0 := blk_frozen BK356.out 0;have hfz67_1 := blk_frozen BK356.out 1;have hfz67_2 := blk_frozen BK356.out 2;have hfz67_3 := blk_frozen BK356.out 3;have hfz67_4 := blk_frozen BK356.out 4;have hfz67_5 := blk_frozen BK356.out 5;have hfz67_6 := blk_frozen BK356.out 6
              go_wp2_with (first | (go_at_call 59; (with_reducible refine (impl_Mean.calls kj51 t343 t344 t345 t346 _ _ t347 _ _ t350 _ _ t353 t395 _ ?side1 ?side2 ?side3 ?side4 ?side5 ?side6 A66.out).mono ?_); (case side1 => repeat (first | exact (Kd.R_reads' HO_357004.out).2.2 | (with_reducible refine Kd.C_alloc ?_ _) | (with_reducible refine Kd.C_drewN ?_ _) | (with_reducible refine Kd.C_drew ?_))); (case side2 => exact (Kd.R_reads' HO_357004.out).2.1); (case side3 => repeat (first | exact (Kd.R_reads' HO_357005.out).2.2 | (with_reducible refine Kd.C_alloc ?_ _) | (with_reducible refine Kd.C_drewN ?_ _) | (with_reducible refine Kd.C_drew ?_))); (case side4 => exact (Kd.R_reads' HO_357005.out).2.1); (case side5 => repeat (first | exact (Kd.S_reads' HO_357006.out).2.2 | (with_reducible refine Kd.C_alloc ?_ _) | (with_reducible refine Kd.C_drewN ?_ _) | (with_reducible refine Kd.C_drew ?_))); (case side6 => exact (Kd.S_reads' HO_357006.out).2.1); rintro e w68 ⟨rfl, hb⟩; have n0_ := Aside0.mk (Kd.R_below (by (with_reducible repeat (first | apply Kd.R_alloc | apply Kd.R_drewN | apply Kd.R_drew)); exact HO_5.out) hb); have n1_ := Aside0.mk (Kd.R_below (by (with_reducible repeat (first | apply Kd.R_alloc | apply Kd.R_drewN | apply Kd.R_drew)); exact HO_357004.out) hb); have n2_ := Aside0.mk (Kd.R_below (by (with_reducible repeat (first | apply Kd.R_alloc | apply Kd.R_drewN | apply Kd.R_drew)); exact HO_357005.out) hb); have n3_ := Aside0.mk (Kd.S_below (by (with_reducible repeat (first | apply Kd.S_alloc | apply Kd.S_drewN | apply Kd.S_drew)); exact HO_357006.out) hb); have n4_ := Aside0.mk (blk_below (g := gb356) (o := .cells #[.int .i64 t343, .int .i64 t344, .int .i64 t345, .int .i64 t346, .slice Ao14 t347.length co14, .slice Ao15 t350.length co15, .slice Ao16 t353.length co16] 43 (0, 0)) (by (with_reducible repeat (first | refine blk_drewN ?_ _ | refine blk_drew ?_ | refine blk_alloc ?_ _)); exact BK356.out) hb); have n5_ := Aside0.mk (below_step (by repeat (first | (with_reducible first | exact HB.out | apply below_alloc | apply pw_below_drewN | apply below_drew1 | refine below_set ?_ GE356.out) | exact HB.out)) hb); clear HO_5; clear HO_357004; clear HO_357005; clear HO_357006; clear BK356; clear HB; have HO_5 := n0_; have HO_357004 := n1_; have HO_357005 := n2_; have HO_357006 := n3_; have BK356 := n4_; have HB := n5_; clear n0_ n1_ n2_ n3_ n4_ n5_; (try clear hb); (try clear hb2); (try clear hk); (try clear hi)))
              go_ret
              exact ⟨by first | rfl | (simp [errW_none, errW_some] <;> rfl) | (simp [*, errW_none, errW_some] <;> rfl), by repeat (first | (with_reducible first | exact HB.out | apply below_alloc | apply pw_below_drewN | apply below_drew1 | refine below_set ?_ GE356.out) | exact HB.out)⟩
             ·rw [if_neg c65] at H
              have c65b0 : (t343 == 0) = false := beq_eq_false_iff_ne.mpr c65;have c65b1 : (t343 != 0) = true := bne_iff_ne.mpr c65;obtain rfl := Option.some.inj H;exact absurd hrt.out (by decide)
            ·rw [if_neg c64] at H
             have c64b0 : ((x5_1.length : Int) == 0) = false := beq_eq_false_iff_ne.mpr c64;have c64b1 : ((x5_1.length : Int) != 0) = true := bne_iff_ne.mpr c64
             have c64b2 : ¬ (x5_1 = []) := fun h_ => c64 (by rw [h_]; rfl)
             replace H := Option.bind_eq_some_iff.mp H;obtain ⟨⟨t396, t397⟩, A690, H⟩ := H;replace H : (if t396 > t346 then (laws_FnTells.j4 kj51 x5_1 x8_2 true t343 t344 t345 t346 t347 t350 t353) else (laws_FnTells.j4 kj51 x5_1 x8_2 (decide (t397 < t346)) t343 t344 t345 t346 t347 t350 t353)) = some r := H;have A69 := Aside0.mk A690;clear A690;have HC70 := Aside0.mk H;clear H;have hcz71_0 : wc.cell? ⟨gb356, 0, none⟩ = some (.int .i64 t343) := (blk_cell BK356.out 0).trans rfl;have hcz71_1 : wc.cell? ⟨gb356, 1, none⟩ = some (.int .i64 t344) := (blk_cell BK356.out 1).trans rfl;have hcz71_2 : wc.cell? ⟨gb356, 2, none⟩ = some (.int .i64 t345) := (blk_cell BK356.out 2).trans rfl;have hcz71_3 : wc.cell? ⟨gb356, 3, none⟩ = some (.int .i64 t346) := (blk_cell BK356.out 3).trans rfl;have hcz71_4 : wc.cell? ⟨gb356, 4, none⟩ = some (.slice Ao14 t347.length co14) := (blk_cell BK356.out 4).trans rfl;have hcz71_5 : wc.cell? ⟨gb356, 5, none⟩ = some (.slice Ao15 t350.length co15) := (blk_cell BK356.out 5).trans rfl;have hcz71_6 : wc.cell? ⟨gb356, 6, none⟩ = some (.slice Ao16 t353.length co16) := (blk_cell BK356.out 6).trans rfl;have hfz71_0 := blk_frozen BK356.out 0;have hfz71_1 := blk_frozen BK356.out 1;have hfz71_2 := blk_frozen BK356.out 2;have hfz71_3 := blk_frozen BK356.out 3;have hfz71_4 := blk_frozen BK356.out 4;have hfz71_5 := blk_frozen BK356.out 5;have hfz71_6 := blk_frozen BK356.out 6
             go_upto_region 28 with (first | ((with_reducible refine gate_callee (f := 60) rfl ?_); refine goesL_ (some 124) rfl rfl Tryd.func60 (by kernel_rfl) rfl #[.agg #[.int .i64 t343, .int .i64 t344, .int .i64 t345, .int .i64 t346, .slice Ao14 t347.length co14, .slice Ao15 t350.length co15, .slice Ao16 t353.length co16], .int .i64 1000] rfl (by (try simp only [List.map_toArray, List.map_cons, List.map_nil]); first | done | rfl | (simp only [List.length_drop, List.length_take]; rfl)) ?_; (with_reducible refine (impl_Quantile.calls kj51 t343 t344 t345 t346 _ _ t347 _ _ t350 _ _ t353 1000 t396 t397 _ ?side1 ?side2 ?side3 ?side4 ?side5 ?side6 A69.out).mono ?_); (case side1 => repeat (first | exact (Kd.R_reads' HO_357004.out).2.2 | (with_reducible refine Kd.C_alloc ?_ _) | (with_reducible refine Kd.C_drewN ?_ _) | (with_reducible refine Kd.C_drew ?_))); (case side2 => exact (Kd.R_reads' HO_357004.out).2.1); (case side3 => repeat (first | exact (Kd.R_reads' HO_357005.out).2.2 | (with_reducible refine Kd.C_alloc ?_ _) | (with_reducible refine Kd.C_drewN ?_ _) | (with_reducible refine Kd.C_drew ?_))); (case side4 => exact (Kd.R_reads' HO_357005.out).2.1); (case side5 => repeat (first | exact (Kd.S_reads' HO_357006.out).2.2 | (with_reducible refine Kd.C_alloc ?_ _) | (with_reducible refine Kd.C_drewN ?_ _) | (with_reducible refine Kd.C_drew ?_))); (case side6 => exact (Kd.S_reads' HO_357006.out).2.1); rintro e w72 ⟨rfl, hb⟩; refine ⟨_, rfl, ?_⟩; have n0_ := Aside0.mk (Kd.R_below (by (with_reducible repeat (first | apply Kd.R_alloc | apply Kd.R_drewN | apply Kd.R_drew)); exact HO_5.out) hb); have n1_ := Aside0.mk (Kd.R_below (by (with_reducible repeat (first | apply Kd.R_alloc | apply Kd.R_drewN | apply Kd.R_drew)); exact HO_357004.out) hb); have n2_ := Aside0.mk (Kd.R_below (by (with_reducible repeat (first | apply Kd.R_alloc | apply Kd.R_drewN | apply Kd.R_drew)); exact HO_357005.out) hb); have n3_ := Aside0.mk (Kd.S_below (by (with_reducible repeat (first | apply Kd.S_alloc | apply Kd.S_drewN | apply Kd.S_drew)); exact HO_357006.out) hb); have n4_ := Aside0.mk (blk_below (g := gb356) (o := .cells #[.int .i64 t343, .int .i64 t344, .int .i64 t345, .int .i64 t346, .slice Ao14 t347.length co14, .slice Ao15 t350.length co15, .slice Ao16 t353.length co16] 43 (0, 0)) (by (with_reducible repeat (first | refine blk_drewN ?_ _ | refine blk_drew ?_ | refine blk_alloc ?_ _)); exact BK356.out) hb); have n5_ := Aside0.mk (below_step (by repeat (first | (with_reducible first | exact HB.out | apply below_alloc | apply pw_below_drewN | apply below_drew1 | refine below_set ?_ GE356.out) | exact HB.out)) hb); clear HO_5; clear HO_357004; clear HO_357005; clear HO_357006; clear BK356; clear HB; have HO_5 := n0_; have HO_357004 := n1_; have HO_357005 := n2_; have HO_357006 := n3_; have BK356 := n4_; have HB := n5_; clear n0_ n1_ n2_ n3_ n4_ n5_; (try clear hb); (try clear hb2); (try clear hk); (try clear hi)))
             (try simp only [Act.put, List.setIfInBounds_toArray, List.set_cons_zero, List.set_cons_succ])
             go_cut [136] (fun v136 wc => ∃ (kq : Nat) (x136_69 : Bool), v136 = .bool x136_69 ∧ Aside0 (laws_FnTells.j4 kq x5_1 x8_2 x136_69 t343 t344 t345 t346 t347 t350 t353 = some r) ∧ Aside0 (kq ≤ kj51) ∧ Aside0 (Kd.R (Kd.int .i64) 3 wc w.heap.size (fun k_ => some k_ ≠ ((.slice Ao14 t347.length co14) : Value).ownBlock ∧ some k_ ≠ ((.slice Ao15 t350.length co15) : Value).ownBlock) (.slice Ao53 x5_1.length co53) x5_1) ∧ Aside0 (Kd.R (Kd.int .i64) 3 wc w.heap.size (fun k_ => some k_ ≠ ((.slice Ao53 x5_1.length co53) : Value).ownBlock ∧ some k_ ≠ ((.slice Ao15 t350.length co15) : Value).ownBlock) (.slice Ao14 t347.length co14) t347) ∧ Aside0 (Kd.R (Kd.int .i64) 3 wc w.heap.size (fun k_ => some k_ ≠ ((.slice Ao53 x5_1.length co53) : Value).ownBlock ∧ some k_ ≠ ((.slice Ao14 t347.length co14) : Value).ownBlock) (.slice Ao15 t350.length co15) t350) ∧ Aside0 (Kd.S (Kd.slice 3 (Kd.int .i64)) 39 wc w.heap.size (fun k_ => some k_ ≠ ((.slice Ao53 x5_1.length co53) : Value).ownBlock ∧ some k_ ≠ ((.slice Ao14 t347.length co14) : Value).ownBlock ∧ some k_ ≠ ((.slice Ao15 t350.length co15) : Value).ownBlock) (.slice Ao16 t353.length co16) t353) ∧ Aside0 (wc.heap[gb356]? = some (.cells #[.int .i64 t343, .int .i64 t344, .int .i64 t345, .int .i64 t346, (.slice Ao14 t347.length co14), (.slice Ao15 t350.length co15), (.slice Ao16 t353.length co16)] 43 (0, 0))) ∧ Aside0 (Below w.heap.size w wc))
             case first =>
              have H := HC70.out;clear HC70
              by_cases c73 : t396 > t346
              ·rw [if_pos c73] at H
               have c73b0 : decide (t346 < t396) = true := decide_eq_true c73;clear c73
               (first | rw [c73b0] | (simp only [i64_w, i32_w]; rw [c73b0]) | rw [c73b1] | rw [c73b2] | rw [c73b3] | skip)
               have H' := Aside0.mk H;clear H;have hcz74_0 : w72.cell? ⟨gb356, 0, none⟩ = some (.int .i64 t343) := (blk_cell BK356.out 0).trans rfl;have hcz74_1 : w72.cell? ⟨gb356, 1, none⟩ = some (.int .i64 t344) := (blk_cell BK356.out 1).trans rfl;have hcz74_2 : w72.cell? ⟨gb356, 2, none⟩ = some (.int .i64 t345) := (blk_cell BK356.out 2).trans rfl;have hcz74_3 : w72.cell? ⟨gb356, 3, none⟩ = some (.int .i64 t346) := (blk_cell BK356.out 3).trans rfl;have hcz74_4 : w72.cell? ⟨gb356, 4, none⟩ = some (.slice Ao14 t347.length co14) := (blk_cell BK356.out 4).trans rfl;have hcz74_5 : w72.cell? ⟨gb356, 5, none⟩ = some (.slice Ao15 t350.length co15) := (blk_cell BK356.out 5).trans rfl;have hcz74_6 : w72.cell? ⟨gb356, 6, none⟩ = some (.slice Ao16 t353.length co16) := (blk_cell BK356.out 6).trans rfl;have hfz74_0 := blk_frozen BK356.out 0;have hfz74_1 := blk_frozen BK356.out 1;have hfz74_2 := blk_frozen BK356.out 2;have hfz74_3 := blk_frozen BK356.out 3;have hfz74_4 := blk_frozen BK356.out 4;have hfz74_5 := blk_frozen BK356.out 5;have hfz74_6 := blk_frozen BK356.out 6
               go_wp2
               (first | go_meet | (refine Met.intro ?_; go_step; (repeat apply Exists.intro); refine ⟨?rel, ?eqs⟩; case eqs => ((try rw [show (!true) = true from by assumption]); (try rw [show (!true) = false from by assumption]); (try rw [show (decide (x6_1 < (t340.length : Int))) = true from by assumption]); (try rw [show (decide (x6_1 < (t340.length : Int))) = false from by assumption]); (try rw [show (decide (x9_2 < (x5_1.length : Int))) = true from by assumption]); (try rw [show (decide (x9_2 < (x5_1.length : Int))) = false from by assumption]); (try rw [show ((x5_1.length : Int) == 0) = true from by assumption]); (try rw [show ((x5_1.length : Int) == 0) = false from by assumption]); (try rw [show (decide (t396 > t346)) = true from by assumption]); (try rw [show (decide (t396 > t346)) = false from by assumption]); (try rfl))))
               case rel => exact ⟨_, (true), (by first | rfl | (simp; done) | (simp [*]; done)), H', ⟨by have := HK1.out; have := HK2.out; have := HJ51.out; first | omega | exact Nat.le_refl _⟩, ⟨by (with_reducible repeat (first | apply Kd.R_alloc | apply Kd.R_drewN | apply Kd.R_drew)); exact HO_5.out⟩, ⟨by (with_reducible repeat (first | apply Kd.R_alloc | apply Kd.R_drewN | apply Kd.R_drew)); exact HO_357004.out⟩, ⟨by (with_reducible repeat (first | apply Kd.R_alloc | apply Kd.R_drewN | apply Kd.R_drew)); exact HO_357005.out⟩, ⟨by (with_reducible repeat (first | apply Kd.S_alloc | apply Kd.S_drewN | apply Kd.S_drew)); exact HO_357006.out⟩, ⟨by (with_reducible repeat (first | refine blk_drewN ?_ _ | refine blk_drew ?_ | refine blk_alloc ?_ _)); exact BK356.out⟩, ⟨by repeat (first | (with_reducible first | exact HB.out | apply below_alloc | apply pw_below_drewN | apply below_drew1 | refine below_set ?_ GE356.out) | exact HB.out)⟩⟩
              ·rw [if_neg c73] at H
               have c73b0 : decide (t346 < t396) = false := decide_eq_false c73;clear c73
               (first | rw [c73b0] | (simp only [i64_w, i32_w]; rw [c73b0]) | rw [c73b1] | rw [c73b2] | rw [c73b3] | skip)
               have H' := Aside0.mk H;clear H;have hcz75_0 : w72.cell? ⟨gb356, 0, none⟩ = some (.int .i64 t343) := (blk_cell BK356.out 0).trans rfl;have hcz75_1 : w72.cell? ⟨gb356, 1, none⟩ = some (.int .i64 t344) := (blk_cell BK356.out 1).trans rfl;have hcz75_2 : w72.cell? ⟨gb356, 2, none⟩ = some (.int .i64 t345) := (blk_cell BK356.out 2).trans rfl;have hcz75_3 : w72.cell? ⟨gb356, 3, none⟩ = some (.int .i64 t346) := (blk_cell BK356.out 3).trans rfl;have hcz75_4 : w72.cell? ⟨gb356, 4, none⟩ = some (.slice Ao14 t347.length co14) := (blk_cell BK356.out 4).trans rfl;have hcz75_5 : w72.cell? ⟨gb356, 5, none⟩ = some (.slice Ao15 t350.length co15) := (blk_cell BK356.out 5).trans rfl;have hcz75_6 : w72.cell? ⟨gb356, 6, none⟩ = some (.slice Ao16 t353.length co16) := (blk_cell BK356.out 6).trans rfl;have hfz75_0 := blk_frozen BK356.out 0;have hfz75_1 := blk_frozen BK356.out 1;have hfz75_2 := blk_frozen BK356.out 2;have hfz75_3 := blk_frozen BK356.out 3;have hfz75_4 := blk_frozen BK356.out 4;have hfz75_5 := blk_frozen BK356.out 5;have hfz75_6 := blk_frozen BK356.out 6
               go_wp2
               (first | go_meet | (refine Met.intro ?_; go_step; (repeat apply Exists.intro); refine ⟨?rel, ?eqs⟩; case eqs => ((try rw [show (!true) = true from by assumption]); (try rw [show (!true) = false from by assumption]); (try rw [show (decide (x6_1 < (t340.length : Int))) = true from by assumption]); (try rw [show (decide (x6_1 < (t340.length : Int))) = false from by assumption]); (try rw [show (decide (x9_2 < (x5_1.length : Int))) = true from by assumption]); (try rw [show (decide (x9_2 < (x5_1.length : Int))) = false from by assumption]); (try rw [show ((x5_1.length : Int) == 0) = true from by assumption]); (try rw [show ((x5_1.length : Int) == 0) = false from by assumption]); (try rw [show (decide (t396 > t346)) = true from by assumption]); (try rw [show (decide (t396 > t346)) = false from by assumption]); (try rw [show (decide (t397 < t346)) = true from by assumption]); (try rw [show (decide (t397 < t346)) = false from by assumption]); (try rfl))))
               case rel => exact ⟨_, (decide (t397 < t346)), (by first | rfl | (simp; done) | (simp [*]; done)), H', ⟨by have := HK1.out; have := HK2.out; have := HJ51.out; first | omega | exact Nat.le_refl _⟩, ⟨by (with_reducible repeat (first | apply Kd.R_alloc | apply Kd.R_drewN | apply Kd.R_drew)); exact HO_5.out⟩, ⟨by (with_reducible repeat (first | apply Kd.R_alloc | apply Kd.R_drewN | apply Kd.R_drew)); exact HO_357004.out⟩, ⟨by (with_reducible repeat (first | apply Kd.R_alloc | apply Kd.R_drewN | apply Kd.R_drew)); exact HO_357005.out⟩, ⟨by (with_reducible repeat (first | apply Kd.S_alloc | apply Kd.S_drewN | apply Kd.S_drew)); exact HO_357006.out⟩, ⟨by (with_reducible repeat (first | refine blk_drewN ?_ _ | refine blk_drew ?_ | refine blk_alloc ?_ _)); exact BK356.out⟩, ⟨by repeat (first | (with_reducible first | exact HB.out | apply below_alloc | apply pw_below_drewN | apply below_drew1 | refine below_set ?_ GE356.out) | exact HB.out)⟩⟩
             case rest =>
              clear HC70
              try clear c1
              try clear c2
              try clear p2
              try clear c3
              try clear p3
              try clear q3
              try clear hx3
              try clear c4
              try clear q4
              try clear c5
              try clear c6
              try clear p6
              try clear c7
              try clear c8
              try clear c12
              try clear c17
              try clear c26
              try clear c26b0
              try clear c27
              try clear c27b0
              try clear c28
              try clear c28b0
              try clear c29
              try clear c29b0
              try clear c30
              try clear c32
              try clear c32b0
              try clear c33
              try clear c33b0
              try clear c34
              try clear c34b0
              try clear c35
              try clear c35b0
              try clear c35b1
              try clear c36
              try clear c37
              try clear p37
              try clear q37
              try clear hx37
              try clear c38
              try clear p38
              try clear q38
              try clear hx38
              try clear p39
              try clear q39
              try clear hx39
              try clear q40
              try clear c41
              try clear c41b0
              try clear c41b1
              try clear c41b2
              try clear c42
              try clear c42b0
              try clear c43
              try clear c43b0
              try clear c46
              try clear c46b0
              try clear c48
              try clear c48b0
              try clear c55
              try clear c55b0
              try clear c55b1
              try clear c55b2
              try clear c56
              try clear c57
              try clear c58
              try clear c60
              try clear c63
              try clear c64
              try clear c64b0
              try clear c64b1
              try clear c64b2
              try clear p64
              try clear c65
              try clear c65b0
              try clear c65b1
              try clear c73
              try clear c73b0
              try clear c73b1
              try clear c73b2
              try clear hcz13_0
              try clear hcz13_1
              try clear hcz13_2
              try clear hcz13_3
              try clear hcz13_4
              try clear hcz13_5
              try clear hcz13_6
              try clear hcz56_0
              try clear hcz56_1
              try clear hcz56_2
              try clear hcz56_3
              try clear hcz56_4
              try clear hcz56_5
              try clear hcz56_6
              try clear hcz59_0
              try clear hcz59_1
              try clear hcz59_2
              try clear hcz59_3
              try clear hcz59_4
              try clear hcz59_5
              try clear hcz59_6
              try clear hcz61_0
              try clear hcz61_1
              try clear hcz61_2
              try clear hcz61_3
              try clear hcz61_4
              try clear hcz61_5
              try clear hcz61_6
              try clear hcz67_0
              try clear hcz67_1
              try clear hcz67_2
              try clear hcz67_3
              try clear hcz67_4
              try clear hcz67_5
              try clear hcz67_6
              try clear hcz71_0
              try clear hcz71_1
              try clear hcz71_2
              try clear hcz71_3
              try clear hcz71_4
              try clear hcz71_5
              try clear hcz71_6
              try clear hcz74_0
              try clear hcz74_1
              try clear hcz74_2
              try clear hcz74_3
              try clear hcz74_4
              try clear hcz74_5
              try clear hcz74_6
              try clear hcz75_0
              try clear hcz75_1
              try clear hcz75_2
              try clear hcz75_3
              try clear hcz75_4
              try clear hcz75_5
              try clear hcz75_6
              try clear hfz13_0
              try clear hfz13_1
              try clear hfz13_2
              try clear hfz13_3
              try clear hfz13_4
              try clear hfz13_5
              try clear hfz13_6
              try clear hfz56_0
              try clear hfz56_1
              try clear hfz56_2
              try clear hfz56_3
              try clear hfz56_4
              try clear hfz56_5
              try clear hfz56_6
              try clear hfz59_0
              try clear hfz59_1
              try clear hfz59_2
              try clear hfz59_3
              try clear hfz59_4
              try clear hfz59_5
              try clear hfz59_6
              try clear hfz61_0
              try clear hfz61_1
              try clear hfz61_2
              try clear hfz61_3
              try clear hfz61_4
              try clear hfz61_5
              try clear hfz61_6
              try clear hfz67_0
              try clear hfz67_1
              try clear hfz67_2
              try clear hfz67_3
              try clear hfz67_4
              try clear hfz67_5
              try clear hfz67_6
              try clear hfz71_0
              try clear hfz71_1
              try clear hfz71_2
              try clear hfz71_3
              try clear hfz71_4
              try clear hfz71_5
              try clear hfz71_6
              try clear hfz74_0
              try clear hfz74_1
              try clear hfz74_2
              try clear hfz74_3
              try clear hfz74_4
              try clear hfz74_5
              try clear hfz74_6
              try clear hfz75_0
              try clear hfz75_1
              try clear hfz75_2
              try clear hfz75_3
              try clear hfz75_4
              try clear hfz75_5
              try clear hfz75_6
              try clear hx374_0
              try clear hx375_0
              try clear hx376_0
              try clear hx380_0
              try clear hx385_0
              try clear hx387_0
              try clear hx389_0
              try clear hx391_0
              try clear p2
              try clear p3
              try clear p37
              try clear p374
              try clear p375
              try clear p376
              try clear p38
              try clear p380
              try clear p385
              try clear p387
              try clear p389
              try clear p39
              try clear p391
              try clear p6
              try clear q3
              try clear q37
              try clear q374
              try clear q375
              try clear q376
              try clear q38
              try clear q380
              try clear q385
              try clear q387
              try clear q389
              try clear q39
              try clear q391
              try clear q4
              try clear q40
              obtain ⟨kq, x136_69, rfl, HA, HJ69, HO_5, HO_357004, HO_357005, HO_357006, BK356, HB⟩ := hcut
              cases kq with
              | zero => exact absurd HA.out (by simp [laws_FnTells.j4])
              | succ kj69 =>
               have H := HA.out;clear HA;simp only [laws_FnTells.j4] at H
               by_cases c76 : x136_69 = true
               ·subst c76
                have H1 : (some false) = some r := by rw [if_pos rfl] at H; exact H
                clear H;have H := H1;clear H1;obtain rfl := Option.some.inj H;exact absurd hrt.out (by decide)
               ·replace c76 := Bool.eq_false_iff.mpr c76
                subst c76
                have H1 : ((impl_Quantile.f kj69 t343 t344 t345 t346 t347 t350 t353 1).bind fun bt398 => (if bt398.1 ≤ t345 then (if bt398.2 ≥ t345 then ((impl_Mean.f kj69 t343 t344 t345 t346 t347 t350 t353).bind fun t400 => (if (x5_1.length : Int) = 0 then (none) else (some (t400 == (wrap64 (Int.tdiv x8_2 (x5_1.length : Int))))))) else (some false)) else (some false))) = some r := by rw [if_neg (show ¬ (false = true) by decide)] at H; exact H
                clear H;have H := H1;clear H1;replace H := Option.bind_eq_some_iff.mp H;obtain ⟨⟨t398, t399⟩, A770, H⟩ := H;replace H : (if t398 ≤ t345 then (if t399 ≥ t345 then ((impl_Mean.f kj69 t343 t344 t345 t346 t347 t350 t353).bind fun t400 => (if (x5_1.length : Int) = 0 then (none) else (some (t400 == (wrap64 (Int.tdiv x8_2 (x5_1.length : Int))))))) else (some false)) else (some false)) = some r := H;have A77 := Aside0.mk A770;clear A770
                by_cases c78 : t398 ≤ t345
                ·rw [if_pos c78] at H
                 have c78b0 : decide (t398 ≤ t345) = true := decide_eq_true c78;clear c78
                 by_cases c79 : t399 ≥ t345
                 ·rw [if_pos c79] at H
                  have c79b0 : decide (t345 ≤ t399) = true := decide_eq_true c79;clear c79;replace H := Option.bind_eq_some_iff.mp H;obtain ⟨t400, A800, H⟩ := H;replace H : (if (x5_1.length : Int) = 0 then (none) else (some (t400 == (wrap64 (Int.tdiv x8_2 (x5_1.length : Int)))))) = some r := H;have A80 := Aside0.mk A800;clear A800
                  by_cases c81 : (x5_1.length : Int) = 0
                  ·rw [if_pos c81] at H
                   exact absurd H (by simp)
                  ·rw [if_neg c81] at H
                   have c81b0 : ((x5_1.length : Int) == 0) = false := beq_eq_false_iff_ne.mpr c81;have c81b1 : ((x5_1.length : Int) != 0) = true := bne_iff_ne.mpr c81
                   have c81b2 : ¬ (x5_1 = []) := fun h_ => c81 (by rw [h_]; rfl)
                   obtain rfl := Option.some.inj H;simp only [Option.some.injEq, Prod.mk.injEq] at H;obtain ⟨rfl⟩ := H;have hcz82_0 : wc.cell? ⟨gb356, 0, none⟩ = some (.int .i64 t343) := (blk_cell BK356.out 0).trans rfl;have hcz82_1 : wc.cell? ⟨gb356, 1, none⟩ = some (.int .i64 t344) := (blk_cell BK356.out 1).trans rfl;have hcz82_2 : wc.cell? ⟨gb356, 2, none⟩ = some (.int .i64 t345) := (blk_cell BK356.out 2).trans rfl;have hcz82_3 : wc.cell? ⟨gb356, 3, none⟩ = some (.int .i64 t346) := (blk_cell BK356.out 3).trans rfl;have hcz82_4 : wc.cell? ⟨gb356, 4, none⟩ = some (.slice Ao14 t347.length co14) := (blk_cell BK356.out 4).trans rfl;have hcz82_5 : wc.cell? ⟨gb356, 5, none⟩ = some (.slice Ao15 t350.length co15) := (blk_cell BK356.out 5).trans rfl;have hcz82_6 : wc.cell? ⟨gb356, 6, none⟩ = some (.slice Ao16 t353.length co16) := (blk_cell BK356.out 6).trans rfl;have hfz82_0 := blk_frozen BK356.out 0;have hfz82_1 := blk_frozen BK356.out 1;have hfz82_2 := blk_frozen BK356.out 2;have hfz82_3 := blk_frozen BK356.out 3;have hfz82_4 := blk_frozen BK356.out 4;have hfz82_5 := blk_frozen BK356.out 5;have hfz82_6 := blk_frozen BK356.out 6
                   try go_wp2_with (first | ((with_reducible refine gate_callee (f := 60) rfl ?_); refine goesL_ (some 139) rfl rfl Tryd.func60 (by kernel_rfl) rfl #[.agg #[.int .i64 t343, .int .i64 t344, .int .i64 t345, .int .i64 t346, .slice Ao14 t347.length co14, .slice Ao15 t350.length co15, .slice Ao16 t353.length co16], .int .i64 1] rfl (by (try simp only [List.map_toArray, List.map_cons, List.map_nil]); first | done | rfl | (simp only [List.length_drop, List.length_take]; rfl)) ?_; (with_reducible refine (impl_Quantile.calls kj69 t343 t344 t345 t346 _ _ t347 _ _ t350 _ _ t353 1 t398 t399 _ ?side1 ?side2 ?side3 ?side4 ?side5 ?side6 A77.out).mono ?_); (case side1 => repeat (first | exact (Kd.R_reads' HO_357004.out).2.2 | (with_reducible refine Kd.C_alloc ?_ _) | (with_reducible refine Kd.C_drewN ?_ _) | (with_reducible refine Kd.C_drew ?_))); (case side2 => exact (Kd.R_reads' HO_357004.out).2.1); (case side3 => repeat (first | exact (Kd.R_reads' HO_357005.out).2.2 | (with_reducible refine Kd.C_alloc ?_ _) | (with_reducible refine Kd.C_drewN ?_ _) | (with_reducible refine Kd.C_drew ?_))); (case side4 => exact (Kd.R_reads' HO_357005.out).2.1); (case side5 => repeat (first | exact (Kd.S_reads' HO_357006.out).2.2 | (with_reducible refine Kd.C_alloc ?_ _) | (with_reducible refine Kd.C_drewN ?_ _) | (with_reducible refine Kd.C_drew ?_))); (case side6 => exact (Kd.S_reads' HO_357006.out).2.1); rintro e w83 ⟨rfl, hb⟩; refine ⟨_, rfl, ?_⟩; have n0_ := Aside0.mk (Kd.R_below (by (with_reducible repeat (first | apply Kd.R_alloc | apply Kd.R_drewN | apply Kd.R_drew)); exact HO_5.out) hb); have n1_ := Aside0.mk (Kd.R_below (by (with_reducible repeat (first | apply Kd.R_alloc | apply Kd.R_drewN | apply Kd.R_drew)); exact HO_357004.out) hb); have n2_ := Aside0.mk (Kd.R_below (by (with_reducible repeat (first | apply Kd.R_alloc | apply Kd.R_drewN | apply Kd.R_drew)); exact HO_357005.out) hb); have n3_ := Aside0.mk (Kd.S_below (by (with_reducible repeat (first | apply Kd.S_alloc | apply Kd.S_drewN | apply Kd.S_drew)); exact HO_357006.out) hb); have n4_ := Aside0.mk (blk_below (g := gb356) (o := .cells #[.int .i64 t343, .int .i64 t344, .int .i64 t345, .int .i64 t346, .slice Ao14 t347.length co14, .slice Ao15 t350.length co15, .slice Ao16 t353.length co16] 43 (0, 0)) (by (with_reducible repeat (first | refine blk_drewN ?_ _ | refine blk_drew ?_ | refine blk_alloc ?_ _)); exact BK356.out) hb); have n5_ := Aside0.mk (below_step (by repeat (first | (with_reducible first | exact HB.out | apply below_alloc | apply pw_below_drewN | apply below_drew1 | refine below_set ?_ GE356.out) | exact HB.out)) hb); clear HO_5; clear HO_357004; clear HO_357005; clear HO_357006; clear BK356; clear HB; have HO_5 := n0_; have HO_357004 := n1_; have HO_357005 := n2_; have HO_357006 := n3_; have BK356 := n4_; have HB := n5_; clear n0_ n1_ n2_ n3_ n4_ n5_; (try clear hb); (try clear hb2); (try clear hk); (try clear hi)))
                   have n0_ := Aside0.mk (Kd.R_drew HO_5.out);have n1_ := Aside0.mk (Kd.R_drew HO_357004.out);have n2_ := Aside0.mk (Kd.R_drew HO_357005.out);have n3_ := Aside0.mk (Kd.S_drew HO_357006.out);have n4_ := Aside0.mk (blk_drew BK356.out);have n5_ := Aside0.mk (below_drew1 HB.out);clear HO_5;clear HO_357004;clear HO_357005;clear HO_357006;clear BK356;clear HB;have HO_5 := n0_;have HO_357004 := n1_;have HO_357005 := n2_;have HO_357006 := n3_;have BK356 := n4_;have HB := n5_;clear n0_ n1_ n2_ n3_ n4_ n5_;refine start_ (n := 20) (S := fun w' => w'.cell? ⟨gb356, 0, none⟩ = some (.int .i64 t343) ∧ w'.cell? ⟨gb356, 1, none⟩ = some (.int .i64 t344) ∧ w'.cell? ⟨gb356, 2, none⟩ = some (.int .i64 t345) ∧ w'.cell? ⟨gb356, 3, none⟩ = some (.int .i64 t346) ∧ w'.cell? ⟨gb356, 4, none⟩ = some (.slice Ao14 t347.length co14) ∧ w'.cell? ⟨gb356, 5, none⟩ = some (.slice Ao15 t350.length co15) ∧ w'.cell? ⟨gb356, 6, none⟩ = some (.slice Ao16 t353.length co16)) (ds := []) #[false, false, false, false, false, false, false, false, false, false, false, false, false, false, false, false, false, false, false, false] (by kernel_rfl) rfl rfl ⟨(blk_cell BK356.out 0).trans rfl, (blk_cell BK356.out 1).trans rfl, (blk_cell BK356.out 2).trans rfl, (blk_cell BK356.out 3).trans rfl, (blk_cell BK356.out 4).trans rfl, (blk_cell BK356.out 5).trans rfl, (blk_cell BK356.out 6).trans rfl⟩ (fun hHeld => ?_); refine with_tabW laws_FnTells.tab31 laws_FnTells.bits31 (fun HT_ HW_ => ?_);generalize w83.drew = w84 at HO_5 HO_357004 HO_357005 HO_357006 BK356 HB hHeld ⊢;refine pure_ (i := 0) (N := some 142) (v := ?_) (a' := ?_) #[true, false, false, false, false, false, false, false, false, false, false, false, false, false, false, false, false, false, false, false] rfl rfl (any_of HT_.out (by kernel_rfl)) (fun _ _ _ h => h) (Or.inl ⟨by rfl, ?_⟩) ?_ ?_
                   rotate_left
                   ·intro w'
                    go_simp
                    with_reducible rfl
                   rotate_left
                   ·simp only [Act.put, List.setIfInBounds_toArray, List.set_cons_zero, List.set_cons_succ, i64_w, i32_w]
                    rfl
                   refine pure_ (i := 1) (N := some 143) (v := ?_) (a' := ?_) #[true, true, false, false, false, false, false, false, false, false, false, false, false, false, false, false, false, false, false, false] rfl rfl (any_of HT_.out (by kernel_rfl)) (fun _ _ _ h => h) (Or.inl ⟨by rfl, ?_⟩) ?_ ?_
                   rotate_left
                   ·intro w'
                    go_simp
                    with_reducible rfl
                   rotate_left
                   ·simp only [Act.put, List.setIfInBounds_toArray, List.set_cons_zero, List.set_cons_succ, i64_w, i32_w]
                    rfl
                   refine take_ (i := 2) (N := some 144) (v := ?_) (a' := ?_) #[true, true, true, false, false, false, false, false, false, false, false, false, false, false, false, false, false, false, false, false] rfl rfl (take_ofW HT_.out HW_.out (by kernel_rfl)) (fun _ _ _ h => h) (Or.inl ⟨by rfl, ?_⟩) hHeld ?_ ?_
                   rotate_left
                   ·rintro w' ⟨s0, s1, s2, s3, s4, s5, s6⟩
                    go_simp
                    with_reducible rfl
                   rotate_left
                   ·simp only [Act.put, List.setIfInBounds_toArray, List.set_cons_zero, List.set_cons_succ, i64_w, i32_w]
                    rfl
                   refine pure_ (i := 3) (N := some 145) (v := ?_) (a' := ?_) #[true, true, true, true, false, false, false, false, false, false, false, false, false, false, false, false, false, false, false, false] rfl rfl (any_of HT_.out (by kernel_rfl)) (fun _ _ _ h => h) (Or.inl ⟨by rfl, ?_⟩) ?_ ?_
                   rotate_left
                   ·intro w'
                    go_simp
                    with_reducible rfl
                   rotate_left
                   ·simp only [Act.put, List.setIfInBounds_toArray, List.set_cons_zero, List.set_cons_succ, i64_w, i32_w]
                    rfl
                   refine pure_ (i := 4) (N := some 146) (v := ?_) (a' := ?_) #[true, true, true, true, true, false, false, false, false, false, false, false, false, false, false, false, false, false, false, false] rfl rfl (any_of HT_.out (by kernel_rfl)) (fun _ _ _ h => h) (Or.inl ⟨by rfl, ?_⟩) ?_ ?_
                   rotate_left
                   ·intro w'
                    go_simp
                    with_reducible rfl
                   rotate_left
                   ·simp only [Act.put, List.setIfInBounds_toArray, List.set_cons_zero, List.set_cons_succ, i64_w, i32_w]
                    rfl
                   refine pure_ (i := 5) (N := some 147) (v := ?_) (a' := ?_) #[true, true, true, true, true, true, false, false, false, false, false, false, false, false, false, false, false, false, false, false] rfl rfl (any_of HT_.out (by kernel_rfl)) (fun _ _ _ h => h) (Or.inl ⟨by rfl, ?_⟩) ?_ ?_
                   rotate_left
                   ·intro w'
                    go_simp
                    with_reducible rfl
                   rotate_left
                   ·simp only [Act.put, List.setIfInBounds_toArray, List.set_cons_zero, List.set_cons_succ, i64_w, i32_w]
                    rfl
                   refine pure_ (i := 6) (N := some 148) (v := ?_) (a' := ?_) #[true, true, true, true, true, true, true, false, false, false, false, false, false, false, false, false, false, false, false, false] rfl rfl (any_of HT_.out (by kernel_rfl)) (fun _ _ _ h => h) (Or.inl ⟨by rfl, ?_⟩) ?_ ?_
                   rotate_left
                   ·intro w'
                    go_simp
                    with_reducible rfl
                   rotate_left
                   ·simp only [Act.put, List.setIfInBounds_toArray, List.set_cons_zero, List.set_cons_succ, i64_w, i32_w]
                    rfl
                   refine take_ (i := 7) (N := some 149) (v := ?_) (a' := ?_) #[true, true, true, true, true, true, true, true, false, false, false, false, false, false, false, false, false, false, false, false] rfl rfl (take_ofW HT_.out HW_.out (by kernel_rfl)) (fun _ _ _ h => h) (Or.inl ⟨by rfl, ?_⟩) hHeld ?_ ?_
                   rotate_left
                   ·rintro w' ⟨s0, s1, s2, s3, s4, s5, s6⟩
                    go_simp
                    with_reducible rfl
                   rotate_left
                   ·simp only [Act.put, List.setIfInBounds_toArray, List.set_cons_zero, List.set_cons_succ, i64_w, i32_w]
                    rfl
                   refine pure_ (i := 8) (N := some 150) (v := ?_) (a' := ?_) #[true, true, true, true, true, true, true, true, true, false, false, false, false, false, false, false, false, false, false, false] rfl rfl (any_of HT_.out (by kernel_rfl)) (fun _ _ _ h => h) (Or.inl ⟨by rfl, ?_⟩) ?_ ?_
                   rotate_left
                   ·intro w'
                    go_simp
                    with_reducible rfl
                   rotate_left
                   ·simp only [Act.put, List.setIfInBounds_toArray, List.set_cons_zero, List.set_cons_succ, i64_w, i32_w]
                    rfl
                   refine pure_ (i := 9) (N := some 151) (v := ?_) (a' := ?_) #[true, true, true, true, true, true, true, true, true, true, false, false, false, false, false, false, false, false, false, false] rfl rfl (any_of HT_.out (by kernel_rfl)) (fun _ _ _ h => h) (Or.inl ⟨by rfl, ?_⟩) ?_ ?_
                   rotate_left
                   ·intro w'
                    go_simp
                    with_reducible rfl
                   rotate_left
                   ·simp only [Act.put, List.setIfInBounds_toArray, List.set_cons_zero, List.set_cons_succ, i64_w, i32_w]
                    rfl
                   refine pure_ (i := 10) (N := some 152) (v := ?_) (a' := ?_) #[true, true, true, true, true, true, true, true, true, true, true, false, false, false, false, false, false, false, false, false] rfl rfl (any_of HT_.out (by kernel_rfl)) (fun _ _ _ h => h) (Or.inl ⟨by rfl, ?_⟩) ?_ ?_
                   rotate_left
                   ·intro w'
                    go_simp
                    with_reducible rfl
                   rotate_left
                   ·simp only [Act.put, List.setIfInBounds_toArray, List.set_cons_zero, List.set_cons_succ, i64_w, i32_w]
                    rfl
                   refine pure_ (i := 13) (N := some 155) (v := ?_) (a' := ?_) #[true, true, true, true, true, true, true, true, true, true, true, false, false, true, false, false, false, false, false, false] rfl rfl (any_of HT_.out (by kernel_rfl)) (fun _ _ _ h => h) (Or.inl ⟨by rfl, ?_⟩) ?_ ?_
                   rotate_left
                   ·intro w'
                    go_simp
                    with_reducible rfl
                   rotate_left
                   ·simp only [Act.put, List.setIfInBounds_toArray, List.set_cons_zero, List.set_cons_succ, i64_w, i32_w]
                    rfl
                   refine pure_ (i := 14) (N := some 156) (v := ?_) (a' := ?_) #[true, true, true, true, true, true, true, true, true, true, true, false, false, true, true, false, false, false, false, false] rfl rfl (any_of HT_.out (by kernel_rfl)) (fun _ _ _ h => h) (Or.inl ⟨by rfl, ?_⟩) ?_ ?_
                   rotate_left
                   ·intro w'
                    go_simp
                    with_reducible rfl
                   rotate_left
                   ·simp only [Act.put, List.setIfInBounds_toArray, List.set_cons_zero, List.set_cons_succ, i64_w, i32_w]
                    rfl
                   refine pure_ (i := 15) (N := some 157) (v := ?_) (a' := ?_) #[true, true, true, true, true, true, true, true, true, true, true, false, false, true, true, true, false, false, false, false] rfl rfl (any_of HT_.out (by kernel_rfl)) (fun _ _ _ h => h) (Or.inl ⟨by rfl, ?_⟩) ?_ ?_
                   rotate_left
                   ·intro w'
                    go_simp
                    with_reducible rfl
                   rotate_left
                   ·simp only [Act.put, List.setIfInBounds_toArray, List.set_cons_zero, List.set_cons_succ, i64_w, i32_w]
                    rfl
                   refine pure_ (i := 16) (N := some 158) (v := ?_) (a' := ?_) #[true, true, true, true, true, true, true, true, true, true, true, false, false, true, true, true, true, false, false, false] rfl rfl (any_of HT_.out (by kernel_rfl)) (fun _ _ _ h => h) (Or.inl ⟨by rfl, ?_⟩) ?_ ?_
                   rotate_left
                   ·intro w'
                    go_simp
                    with_reducible rfl
                   rotate_left
                   ·simp only [Act.put, List.setIfInBounds_toArray, List.set_cons_zero, List.set_cons_succ, i64_w, i32_w]
                    rfl
                   refine take_ (i := 11) (N := some 153) (v := ?_) (a' := ?_) #[true, true, true, true, true, true, true, true, true, true, true, true, false, true, true, true, true, false, false, false] rfl rfl (take_ofW HT_.out HW_.out (by kernel_rfl)) (fun _ _ _ h => h) (Or.inl ⟨by rfl, ?_⟩) hHeld ?_ ?_
                   rotate_left
                   ·rintro w' ⟨s0, s1, s2, s3, s4, s5, s6⟩
                    go_simp
                    with_reducible rfl
                   rotate_left
                   ·simp only [Act.put, List.setIfInBounds_toArray, List.set_cons_zero, List.set_cons_succ, i64_w, i32_w]
                    rfl
                   refine one_ (i := 12) (N := some 154) #[true, true, true, true, true, true, true, true, true, true, true, true, true, true, true, true, true, false, false, false] rfl rfl (one_of HT_.out (by kernel_rfl)) (by decide) (fun K hK => ?_);refine goes_ Tryd.func59 (by kernel_rfl) rfl #[.agg #[.int .i64 t343, .int .i64 t344, .int .i64 t345, .int .i64 t346, .slice Ao14 t347.length co14, .slice Ao15 t350.length co15, .slice Ao16 t353.length co16]] (by rfl) rfl rfl (by (try simp only [List.map_toArray, List.map_cons, List.map_nil]); first | done | rfl | (simp only [List.length_drop, List.length_take]; rfl)) ?_
                   with_reducible refine (impl_Mean.calls kj69 t343 t344 t345 t346 _ _ t347 _ _ t350 _ _ t353 t400 _ ?side1 ?side2 ?side3 ?side4 ?side5 ?side6 A80.out).mono ?_
                   (case side1 => repeat (first | exact (Kd.R_reads' HO_357004.out).2.2 | (with_reducible refine Kd.C_alloc ?_ _) | (with_reducible refine Kd.C_drewN ?_ _) | (with_reducible refine Kd.C_drew ?_)))
                   (case side2 => exact (Kd.R_reads' HO_357004.out).2.1)
                   (case side3 => repeat (first | exact (Kd.R_reads' HO_357005.out).2.2 | (with_reducible refine Kd.C_alloc ?_ _) | (with_reducible refine Kd.C_drewN ?_ _) | (with_reducible refine Kd.C_drew ?_)))
                   (case side4 => exact (Kd.R_reads' HO_357005.out).2.1)
                   (case side5 => repeat (first | exact (Kd.S_reads' HO_357006.out).2.2 | (with_reducible refine Kd.C_alloc ?_ _) | (with_reducible refine Kd.C_drewN ?_ _) | (with_reducible refine Kd.C_drew ?_)))
                   (case side6 => exact (Kd.S_reads' HO_357006.out).2.1)
                   rintro e w85 ⟨rfl, hb⟩
                   refine ⟨_, rfl, ?_⟩;have n0_ := Aside0.mk (Kd.R_below (by (with_reducible repeat (first | apply Kd.R_alloc | apply Kd.R_drewN | apply Kd.R_drew)); exact HO_5.out) hb);have n1_ := Aside0.mk (Kd.R_below (by (with_reducible repeat (first | apply Kd.R_alloc | apply Kd.R_drewN | apply Kd.R_drew)); exact HO_357004.out) hb);have n2_ := Aside0.mk (Kd.R_below (by (with_reducible repeat (first | apply Kd.R_alloc | apply Kd.R_drewN | apply Kd.R_drew)); exact HO_357005.out) hb);have n3_ := Aside0.mk (Kd.S_below (by (with_reducible repeat (first | apply Kd.S_alloc | apply Kd.S_drewN | apply Kd.S_drew)); exact HO_357006.out) hb);have n4_ := Aside0.mk (blk_below (g := gb356) (o := .cells #[.int .i64 t343, .int .i64 t344, .int .i64 t345, .int .i64 t346, .slice Ao14 t347.length co14, .slice Ao15 t350.length co15, .slice Ao16 t353.length co16] 43 (0, 0)) (by (with_reducible repeat (first | refine blk_drewN ?_ _ | refine blk_drew ?_ | refine blk_alloc ?_ _)); exact BK356.out) hb);have n5_ := Aside0.mk (below_step (by repeat (first | (with_reducible first | exact HB.out | apply below_alloc | apply pw_below_drewN | apply below_drew1 | refine below_set ?_ GE356.out) | exact HB.out)) hb);clear HO_5;clear HO_357004;clear HO_357005;clear HO_357006;clear BK356;clear HB;have HO_5 := n0_;have HO_357004 := n1_;have HO_357005 := n2_;have HO_357006 := n3_;have BK356 := n4_;have HB := n5_;clear n0_ n1_ n2_ n3_ n4_ n5_
                   (try clear hb)
                   (try clear hb2)
                   (try clear hk)
                   (try clear hi)
                   refine hK.out _ _ ⟨(blk_cell BK356.out 0).trans rfl, (blk_cell BK356.out 1).trans rfl, (blk_cell BK356.out 2).trans rfl, (blk_cell BK356.out 3).trans rfl, (blk_cell BK356.out 4).trans rfl, (blk_cell BK356.out 5).trans rfl, (blk_cell BK356.out 6).trans rfl⟩ (fun hHeld => ?_);clear hK K;refine norm_ (a' := ?_) ?_ ?_
                   rotate_left
                   ·show Act.put _ (some 154) _ = _
                    simp only [Act.put, List.setIfInBounds_toArray, List.set_cons_zero, List.set_cons_succ, i64_w, i32_w]
                    rfl
                   refine pure_ (i := 17) (N := some 159) (v := ?_) (a' := ?_) #[true, true, true, true, true, true, true, true, true, true, true, true, true, true, true, true, true, true, false, false] rfl rfl (any_of HT_.out (by kernel_rfl)) (fun _ _ _ h => h) (Or.inl ⟨by rfl, ?_⟩) ?_ ?_
                   rotate_left
                   ·intro w'
                    go_simp
                    with_reducible rfl
                   rotate_left
                   ·simp only [Act.put, List.setIfInBounds_toArray, List.set_cons_zero, List.set_cons_succ, i64_w, i32_w]
                    rfl
                   refine pure_ (i := 18) (N := some 160) (v := ?_) (a' := ?_) #[true, true, true, true, true, true, true, true, true, true, true, true, true, true, true, true, true, true, true, false] rfl rfl (any_of HT_.out (by kernel_rfl)) (fun _ _ _ h => h) (Or.inl ⟨by rfl, ?_⟩) ?_ ?_
                   rotate_left
                   ·intro w'
                    go_simp
                    with_reducible rfl
                   rotate_left
                   ·simp only [Act.put, List.setIfInBounds_toArray, List.set_cons_zero, List.set_cons_succ, i64_w, i32_w]
                    rfl
                   refine pure_ (i := 19) (N := some 2) (v := ?_) (a' := ?_) #[true, true, true, true, true, true, true, true, true, true, true, true, true, true, true, true, true, true, true, true] rfl rfl (any_of HT_.out (by kernel_rfl)) (fun _ _ _ h => h) (Or.inl ⟨by rfl, ?_⟩) ?_ ?_
                   rotate_left
                   ·intro w'
                    go_simp
                    with_reducible rfl
                   rotate_left
                   ·simp only [Act.put, List.setIfInBounds_toArray, List.set_cons_zero, List.set_cons_succ, i64_w, i32_w]
                    rfl
                   refine done_ (done_of HT_.out (by kernel_rfl)) ?_
                   try go_wp2
                   go_ret
                   exact ⟨by first | rfl | (simp [errW_none, errW_some] <;> rfl) | (simp [*, errW_none, errW_some] <;> rfl), by repeat (first | (with_reducible first | exact HB.out | apply below_alloc | apply pw_below_drewN | apply below_drew1 | refine below_set ?_ GE356.out) | exact HB.out)⟩
                 ·rw [if_neg c79] at H
                  have c79b0 : decide (t345 ≤ t399) = false := decide_eq_false c79;clear c79;obtain rfl := Option.some.inj H;exact absurd hrt.out (by decide)
                ·rw [if_neg c78] at H
                 have c78b0 : decide (t398 ≤ t345) = false := decide_eq_false c78;clear c78;obtain rfl := Option.some.inj H;exact absurd hrt.out (by decide)
  ·replace c8 := Bool.eq_false_iff.mpr c8
   subst c8
   have H1 : (some false) = some r := by rw [if_neg (show ¬ (false = true) by decide)] at H; exact H
   clear H
   have H := H1
   clear H1
   obtain rfl := Option.some.inj H
   exact absurd hrt.out (by decide)
def laws_FnTells.Pure : Prop := ∀ (l0 : List Int), (l0.length ≤ 9223372036854775807 ∧ ∀ y0_2 ∈ l0, (0 ≤ y0_2 ∧ y0_2 ≤ 255)) → ∃ k, laws_FnTells.f k l0 = some true

end Go.Proofs.YtkpicmjncfhnmaaDoor.PFnTells
