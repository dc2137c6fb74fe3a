-- Written by this session's changed copy of the kit's printer (wip/patch_print.py): not the kit's own print.
import Derived.Test.YtfknjoebomicnaaPFnQuantilesx0
import Derived.Test.YtfknjoebomicnaaPFnQuantilesx1
import Derived.Test.YtfknjoebomicnaaPFnQuantilesx2
import Derived.Test.YtfknjoebomicnaaPFnQuantilesx7
import Derived.Test.YtfknjoebomicnaaPFnQuantilesx10
import Derived.Test.YtfknjoebomicnaaPFnQuantilesx12
import Derived.Test.YtfknjoebomicnaaPFnQuantilesx13
namespace Go.Proofs.Ytfknjoebomicnaa.PFnQuantiles
open Go.RowKit Go.Proofs.YtfknjoebomicnaaW.PrintWords Go.Proofs.YtfknjoebomicnaaW.PrintLast Go.Proofs.YtfknjoebomicnaaW.PrintMore
attribute [local go_sem] max2_int min2_int max_two min_two max_three min_three max_four min_four   -- for this text's walks alone
set_option linter.unusedVariables false
set_option linter.unusedSimpArgs false
theorem Z14x0 {p : Prop} (h : p := by repeat (first | (with_reducible first | exact HB.out | apply below_alloc | apply pw_below_drewN | apply below_drew1 | refine below_set ?_ GE404.out) | exact HB.out)) : p := h
theorem Z14x1 {p : Prop} (h : p := by (with_reducible repeat (first | refine blk_drewN ?_ _ | refine blk_drew ?_ | refine blk_alloc ?_ _)); exact BK404.out) : p := h
theorem Z14x2 {p : Prop} (h : p := by (with_reducible repeat (first | apply Kd.R_alloc | apply Kd.R_drewN | apply Kd.R_drew)); exact HO_405004.out) : p := h
theorem Z14x3 {p : Prop} (h : p := by (with_reducible repeat (first | apply Kd.R_alloc | apply Kd.R_drewN | apply Kd.R_drew)); exact HO_405005.out) : p := h
theorem Z14x4 {p : Prop} (h : p := by (with_reducible repeat (first | apply Kd.S_alloc | apply Kd.S_drewN | apply Kd.S_drew)); exact HO_405006.out) : p := h
theorem Z14x5 {p : Prop} (h : p := by (try simp only [List.map_toArray, List.map_cons, List.map_nil]); first | done | rfl | (simp only [List.length_drop, List.length_take]; rfl)) : p := h
theorem Z14x6 {p : Prop} (h : p := by repeat (first | (with_reducible first | exact HB.out | apply below_alloc | apply pw_below_drewN | apply below_drew1) | exact HB.out)) : p := h
theorem Z14x7 {p : Prop} (h : p := by (with_reducible repeat (first | apply Kd.R_alloc | apply Kd.R_drewN | apply Kd.R_drew)); exact (Kd.R_mono (Kd.R_far (p := ⟨gb404, 6, none⟩) (Kd.R_far (p := ⟨gb404, 5, none⟩) (Kd.R_far (p := ⟨gb404, 4, none⟩) (Kd.R_far (p := ⟨gb404, 3, none⟩) (Kd.R_far (p := ⟨gb404, 2, none⟩) (Kd.R_far (p := ⟨gb404, 1, none⟩) (Kd.R_far (p := ⟨gb404, 0, none⟩) (Kd.R_types HO396.out BK404.out (by decide)) (fun _ hk => hk.2) (.int .i64 t390)) (fun _ hk => hk.2) (.int .i64 t391)) (fun _ hk => hk.2) (.int .i64 t392)) (fun _ hk => hk.2) (.int .i64 t393)) (fun _ hk => hk.2) (.slice Ao11 t394.length co11)) (fun _ hk => hk.2) (.slice Ao12 t397.length co12)) (fun _ hk => hk.2) (.slice Ao13 t400.length co13)) (fun _ h_ => h_.1))) : p := h
theorem Z14x8 {p : Prop} (h : p := by (with_reducible repeat (first | apply Kd.R_alloc | apply Kd.R_drewN | apply Kd.R_drew)); exact (Kd.R_mono (Kd.R_far (p := ⟨gb404, 6, none⟩) (Kd.R_far (p := ⟨gb404, 5, none⟩) (Kd.R_far (p := ⟨gb404, 4, none⟩) (Kd.R_far (p := ⟨gb404, 3, none⟩) (Kd.R_far (p := ⟨gb404, 2, none⟩) (Kd.R_far (p := ⟨gb404, 1, none⟩) (Kd.R_far (p := ⟨gb404, 0, none⟩) (Kd.R_types HO399.out BK404.out (by decide)) (fun _ hk => hk.2) (.int .i64 t390)) (fun _ hk => hk.2) (.int .i64 t391)) (fun _ hk => hk.2) (.int .i64 t392)) (fun _ hk => hk.2) (.int .i64 t393)) (fun _ hk => hk.2) (.slice Ao11 t394.length co11)) (fun _ hk => hk.2) (.slice Ao12 t397.length co12)) (fun _ hk => hk.2) (.slice Ao13 t400.length co13)) (fun _ h_ => h_.1))) : p := h
theorem Z14x9 {p : Prop} (h : p := by (with_reducible repeat (first | apply Kd.S_alloc | apply Kd.S_drewN | apply Kd.S_drew)); exact (Kd.S_mono (Kd.S_far (p := ⟨gb404, 6, none⟩) (Kd.S_far (p := ⟨gb404, 5, none⟩) (Kd.S_far (p := ⟨gb404, 4, none⟩) (Kd.S_far (p := ⟨gb404, 3, none⟩) (Kd.S_far (p := ⟨gb404, 2, none⟩) (Kd.S_far (p := ⟨gb404, 1, none⟩) (Kd.S_far (p := ⟨gb404, 0, none⟩) (Kd.S_types HO402.out BK404.out (by decide)) (fun _ hk => hk.2) (.int .i64 t390)) (fun _ hk => hk.2) (.int .i64 t391)) (fun _ hk => hk.2) (.int .i64 t392)) (fun _ hk => hk.2) (.int .i64 t393)) (fun _ hk => hk.2) (.slice Ao11 t394.length co11)) (fun _ hk => hk.2) (.slice Ao12 t397.length co12)) (fun _ hk => hk.2) (.slice Ao13 t400.length co13)) (fun _ h_ => h_.1))) : p := h
theorem Z14x10 {p : Prop} (h : p := by repeat (first | exact (Kd.R_reads' HO_405004.out).2.2 | (with_reducible refine Kd.C_alloc ?_ _) | (with_reducible refine Kd.C_drewN ?_ _) | (with_reducible refine Kd.C_drew ?_))) : p := h
theorem Z14x11 {p : Prop} (h : p := by repeat (first | exact (Kd.R_reads' HO_405005.out).2.2 | (with_reducible refine Kd.C_alloc ?_ _) | (with_reducible refine Kd.C_drewN ?_ _) | (with_reducible refine Kd.C_drew ?_))) : p := h
theorem Z14x12 {p : Prop} (h : p := by repeat (first | exact (Kd.S_reads' HO_405006.out).2.2 | (with_reducible refine Kd.C_alloc ?_ _) | (with_reducible refine Kd.C_drewN ?_ _) | (with_reducible refine Kd.C_drew ?_))) : p := h
theorem Z14x13 {p : Prop} (h : p := by first | rfl | (simp; done) | (simp [*]; done)) : p := h
theorem Z14x14 {p : Prop} (h : p := by first | (with_reducible assumption) | assumption) : p := h
theorem Z14x15 {p : Prop} (h : p := by (with_reducible repeat (first | apply Kd.R_alloc | apply Kd.R_drewN | apply Kd.R_drew)); exact HO396.out) : p := h
theorem Z14x16 {p : Prop} (h : p := by (with_reducible repeat (first | apply Kd.R_alloc | apply Kd.R_drewN | apply Kd.R_drew)); exact HO399.out) : p := h
theorem Z14x17 {p : Prop} (h : p := by (with_reducible repeat (first | apply Kd.S_alloc | apply Kd.S_drewN | apply Kd.S_drew)); exact HO402.out) : p := h
theorem Z14x18 {p : Prop} (h : p := by repeat (first | exact HR0.out | (with_reducible refine Kd.C_alloc ?_ _) | (with_reducible refine Kd.C_drewN ?_ _) | (with_reducible refine Kd.C_drew ?_))) : p := h
theorem Z14x19 {p : Prop} (h : p := by first | rfl | (simp [errW_none, errW_some] <;> rfl) | (simp [*, errW_none, errW_some] <;> rfl)) : p := h

mutual
def laws_FnQuantiles.j0 : Nat → Int → Int → Int → Bool → Int → Int → Int → Int → List Int → List Int → List (List Int) → Option (Bool)
 | 0, _, _, _, _, _, _, _, _, _, _, _ => none
 | k + 1, x4, x5, x6, x42, x405000, x405001, x405002, x405003, x405004, x405005, x405006 => if x42 = true then (some false) else ((spec_SketchOk.f k x405000 x405001 x405002 x405003 x405004 x405005 x405006).bind fun t409 => (if t409 = true then (if x405000 = 0 then (laws_FnQuantiles.j1 k x4 x5 x6 true x405000 x405001 x405002 x405003 x405004 x405005 x405006) else (if x4 < 1 then (laws_FnQuantiles.j1 k x4 x5 x6 true x405000 x405001 x405002 x405003 x405004 x405005 x405006) else (laws_FnQuantiles.j1 k x4 x5 x6 (decide (x4 > 1000)) x405000 x405001 x405002 x405003 x405004 x405005 x405006))) else (laws_FnQuantiles.j1 k x4 x5 x6 true x405000 x405001 x405002 x405003 x405004 x405005 x405006)))
def laws_FnQuantiles.j1 : Nat → Int → Int → Int → Bool → Int → Int → Int → Int → List Int → List Int → List (List Int) → Option (Bool)
 | 0, _, _, _, _, _, _, _, _, _, _, _ => none
 | k + 1, x4, x5, x6, x58, x405000, x405001, x405002, x405003, x405004, x405005, x405006 => if x58 = true then (if x5 = 0 then (some (x6 == 0)) else (some false)) else (laws_FnQuantiles.l0 k x4 x5 x6 0 0 x405000 x405001 x405002 x405003 x405004 x405005 x405006)
def laws_FnQuantiles.l0 : Nat → Int → Int → Int → Int → Int → Int → Int → Int → Int → List Int → List Int → List (List Int) → Option (Bool)
 | 0, _, _, _, _, _, _, _, _, _, _, _, _ => none
 | k + 1, x4, x5, x6, x9, x10, x405000, x405001, x405002, x405003, x405004, x405005, x405006 => if x10 < (x405004.length : Int) then (if 0 ≤ x10 then (laws_FnQuantiles.l0 k x4 x5 x6 (wrap64 (x9 + (rd x405004 x10))) (wrap64 (x10 + 1)) x405000 x405001 x405002 x405003 x405004 x405005 x405006) else (none)) else (if x9 = 0 then (if x5 = 0 then (some (x6 == 0)) else (some false)) else ((impl_BucketOf.f k x5).bind fun t411 => (laws_FnQuantiles.l1 k x4 x5 x6 x9 t411 0 0 x405000 x405001 x405002 x405003 x405004 x405005 x405006)))
def laws_FnQuantiles.l1 : Nat → Int → Int → Int → Int → Int → Int → Int → Int → Int → Int → Int → List Int → List Int → List (List Int) → Option (Bool)
 | 0, _, _, _, _, _, _, _, _, _, _, _, _, _, _ => none
 | k + 1, x4, x5, x6, x9, x11, x12, x13, x405000, x405001, x405002, x405003, x405004, x405005, x405006 => if x13 ≤ x11 then (if 0 ≤ x13 then (if x13 < (x405004.length : Int) then (laws_FnQuantiles.l1 k x4 x5 x6 x9 x11 (wrap64 (x12 + (rd x405004 x13))) (wrap64 (x13 + 1)) x405000 x405001 x405002 x405003 x405004 x405005 x405006) else (none)) else (none)) else ((impl_Quantile.f k x405000 x405001 x405002 x405003 x405004 x405005 x405006 1000).bind fun bt413 => (if (wrap64 (x12 * 1000)) ≥ (wrap64 (x4 * x9)) then (if 0 ≤ x11 then (if x11 < (x405004.length : Int) then (if (rd x405004 x11) > 0 then (if (wrap64 ((wrap64 (x12 - (rd x405004 x11))) * 1000)) < (wrap64 (x4 * x9)) then (if x5 ≤ x6 then (some (decide (bt413.1 ≥ x5))) else (some false)) else (some false)) else (some false)) else (none)) else (none)) else (some false)))
end
def laws_FnQuantiles.f (k : Nat) (l0 : List Int) : Option (Bool) := (laws_big.f l0).bind fun t389 => (if t389 = true then (some true) else ((spec_DrawQuantile.f k l0).bind fun bt390 => ((impl_Quantile.f k bt390.1 bt390.2.1 bt390.2.2.1 bt390.2.2.2.1 bt390.2.2.2.2.1 bt390.2.2.2.2.2.1 bt390.2.2.2.2.2.2.1 bt390.2.2.2.2.2.2.2).bind fun bt405 => ((spec_Quantile.f k bt390.1 bt390.2.1 bt390.2.2.1 bt390.2.2.2.1 bt390.2.2.2.2.1 bt390.2.2.2.2.2.1 bt390.2.2.2.2.2.2.1 bt390.2.2.2.2.2.2.2).bind fun bt407 => (if bt405.1 = bt407.1 then (laws_FnQuantiles.j0 k bt390.2.2.2.2.2.2.2 bt405.1 bt405.2 (bt405.2 != bt407.2) bt390.1 bt390.2.1 bt390.2.2.1 bt390.2.2.2.1 bt390.2.2.2.2.1 bt390.2.2.2.2.2.1 bt390.2.2.2.2.2.2.1) else (laws_FnQuantiles.j0 k bt390.2.2.2.2.2.2.2 bt405.1 bt405.2 true bt390.1 bt390.2.1 bt390.2.2.1 bt390.2.2.2.1 bt390.2.2.2.2.1 bt390.2.2.2.2.2.1 bt390.2.2.2.2.2.2.1))))))
theorem laws_FnQuantiles.mono_l : ∀ k, (∀ y0 y1 y2 y3 y4 y5 y6 y7 y8 y9 y10, LeO (laws_FnQuantiles.j0 k y0 y1 y2 y3 y4 y5 y6 y7 y8 y9 y10) (laws_FnQuantiles.j0 (k + 1) y0 y1 y2 y3 y4 y5 y6 y7 y8 y9 y10)) ∧ (∀ y0 y1 y2 y3 y4 y5 y6 y7 y8 y9 y10, LeO (laws_FnQuantiles.j1 k y0 y1 y2 y3 y4 y5 y6 y7 y8 y9 y10) (laws_FnQuantiles.j1 (k + 1) y0 y1 y2 y3 y4 y5 y6 y7 y8 y9 y10)) ∧ (∀ y0 y1 y2 y3 y4 y5 y6 y7 y8 y9 y10 y11, LeO (laws_FnQuantiles.l0 k y0 y1 y2 y3 y4 y5 y6 y7 y8 y9 y10 y11) (laws_FnQuantiles.l0 (k + 1) y0 y1 y2 y3 y4 y5 y6 y7 y8 y9 y10 y11)) ∧ (∀ y0 y1 y2 y3 y4 y5 y6 y7 y8 y9 y10 y11 y12 y13, LeO (laws_FnQuantiles.l1 k y0 y1 y2 y3 y4 y5 y6 y7 y8 y9 y10 y11 y12 y13) (laws_FnQuantiles.l1 (k + 1) y0 y1 y2 y3 y4 y5 y6 y7 y8 y9 y10 y11 y12 y13))
 | 0 => ⟨fun _ _ _ _ _ _ _ _ _ _ _ r h => by simp [laws_FnQuantiles.j0] at h, fun _ _ _ _ _ _ _ _ _ _ _ r h => by simp [laws_FnQuantiles.j1] at h, fun _ _ _ _ _ _ _ _ _ _ _ _ r h => by simp [laws_FnQuantiles.l0] at h, fun _ _ _ _ _ _ _ _ _ _ _ _ _ _ r h => by simp [laws_FnQuantiles.l1] at h⟩
 | k + 1 => by
  obtain ⟨ih0, ih1, ih2, ih3⟩ := laws_FnQuantiles.mono_l k
  refine ⟨?_, ?_, ?_, ?_⟩
  ·intro y0 y1 y2 y3 y4 y5 y6 y7 y8 y9 y10
   unfold laws_FnQuantiles.j0
   repeat' first
   | (with_reducible exact ih0 _ _ _ _ _ _ _ _ _ _ _)
   | (with_reducible exact ih1 _ _ _ _ _ _ _ _ _ _ _)
   | (with_reducible exact ih2 _ _ _ _ _ _ _ _ _ _ _ _)
   | (with_reducible exact ih3 _ _ _ _ _ _ _ _ _ _ _ _ _ _)
   | (with_reducible exact impl_BucketOf.mono _ _)
   | (with_reducible exact impl_Quantile.mono _ _ _ _ _ _ _ _ _)
   | (with_reducible exact spec_DrawQuantile.mono _ _)
   | (with_reducible exact spec_Quantile.mono _ _ _ _ _ _ _ _ _)
   | (with_reducible exact spec_SketchOk.mono _ _ _ _ _ _ _ _)
   | (with_reducible exact LeO.refl _)
   | (with_reducible exact LeO.none _)
   | (with_reducible refine LeO.ite ?_ ?_)
   | (with_reducible refine LeO.bind ?_ (fun _ => ?_))
   | exact ih0 _ _ _ _ _ _ _ _ _ _ _
   | exact ih1 _ _ _ _ _ _ _ _ _ _ _
   | exact ih2 _ _ _ _ _ _ _ _ _ _ _ _
   | exact ih3 _ _ _ _ _ _ _ _ _ _ _ _ _ _
   | exact impl_BucketOf.mono _ _
   | exact impl_Quantile.mono _ _ _ _ _ _ _ _ _
   | exact spec_DrawQuantile.mono _ _
   | exact spec_Quantile.mono _ _ _ _ _ _ _ _ _
   | exact spec_SketchOk.mono _ _ _ _ _ _ _ _
   | exact LeO.none _
   | refine LeO.ite ?_ ?_
   | refine LeO.bind ?_ (fun _ => ?_)
  ·intro y0 y1 y2 y3 y4 y5 y6 y7 y8 y9 y10
   unfold laws_FnQuantiles.j1
   repeat' first
   | (with_reducible exact ih0 _ _ _ _ _ _ _ _ _ _ _)
   | (with_reducible exact ih1 _ _ _ _ _ _ _ _ _ _ _)
   | (with_reducible exact ih2 _ _ _ _ _ _ _ _ _ _ _ _)
   | (with_reducible exact ih3 _ _ _ _ _ _ _ _ _ _ _ _ _ _)
   | (with_reducible exact impl_BucketOf.mono _ _)
   | (with_reducible exact impl_Quantile.mono _ _ _ _ _ _ _ _ _)
   | (with_reducible exact spec_DrawQuantile.mono _ _)
   | (with_reducible exact spec_Quantile.mono _ _ _ _ _ _ _ _ _)
   | (with_reducible exact spec_SketchOk.mono _ _ _ _ _ _ _ _)
   | (with_reducible exact LeO.refl _)
   | (with_reducible exact LeO.none _)
   | (with_reducible refine LeO.ite ?_ ?_)
   | (with_reducible refine LeO.bind ?_ (fun _ => ?_))
   | exact ih0 _ _ _ _ _ _ _ _ _ _ _
   | exact ih1 _ _ _ _ _ _ _ _ _ _ _
   | exact ih2 _ _ _ _ _ _ _ _ _ _ _ _
   | exact ih3 _ _ _ _ _ _ _ _ _ _ _ _ _ _
   | exact impl_BucketOf.mono _ _
   | exact impl_Quantile.mono _ _ _ _ _ _ _ _ _
   | exact spec_DrawQuantile.mono _ _
   | exact spec_Quantile.mono _ _ _ _ _ _ _ _ _
   | exact spec_SketchOk.mono _ _ _ _ _ _ _ _
   | exact LeO.none _
   | refine LeO.ite ?_ ?_
   | refine LeO.bind ?_ (fun _ => ?_)
  ·intro y0 y1 y2 y3 y4 y5 y6 y7 y8 y9 y10 y11
   unfold laws_FnQuantiles.l0
   repeat' first
   | (with_reducible exact ih0 _ _ _ _ _ _ _ _ _ _ _)
   | (with_reducible exact ih1 _ _ _ _ _ _ _ _ _ _ _)
   | (with_reducible exact ih2 _ _ _ _ _ _ _ _ _ _ _ _)
   | (with_reducible exact ih3 _ _ _ _ _ _ _ _ _ _ _ _ _ _)
   | (with_reducible exact impl_BucketOf.mono _ _)
   | (with_reducible exact impl_Quantile.mono _ _ _ _ _ _ _ _ _)
   | (with_reducible exact spec_DrawQuantile.mono _ _)
   | (with_reducible exact spec_Quantile.mono _ _ _ _ _ _ _ _ _)
   | (with_reducible exact spec_SketchOk.mono _ _ _ _ _ _ _ _)
   | (with_reducible exact LeO.refl _)
   | (with_reducible exact LeO.none _)
   | (with_reducible refine LeO.ite ?_ ?_)
   | (with_reducible refine LeO.bind ?_ (fun _ => ?_))
   | exact ih0 _ _ _ _ _ _ _ _ _ _ _
   | exact ih1 _ _ _ _ _ _ _ _ _ _ _
   | exact ih2 _ _ _ _ _ _ _ _ _ _ _ _
   | exact ih3 _ _ _ _ _ _ _ _ _ _ _ _ _ _
   | exact impl_BucketOf.mono _ _
   | exact impl_Quantile.mono _ _ _ _ _ _ _ _ _
   | exact spec_DrawQuantile.mono _ _
   | exact spec_Quantile.mono _ _ _ _ _ _ _ _ _
   | exact spec_SketchOk.mono _ _ _ _ _ _ _ _
   | exact LeO.none _
   | refine LeO.ite ?_ ?_
   | refine LeO.bind ?_ (fun _ => ?_)
  ·intro y0 y1 y2 y3 y4 y5 y6 y7 y8 y9 y10 y11 y12 y13
   unfold laws_FnQuantiles.l1
   repeat' first
   | (with_reducible exact ih0 _ _ _ _ _ _ _ _ _ _ _)
   | (with_reducible exact ih1 _ _ _ _ _ _ _ _ _ _ _)
   | (with_reducible exact ih2 _ _ _ _ _ _ _ _ _ _ _ _)
   | (with_reducible exact ih3 _ _ _ _ _ _ _ _ _ _ _ _ _ _)
   | (with_reducible exact impl_BucketOf.mono _ _)
   | (with_reducible exact impl_Quantile.mono _ _ _ _ _ _ _ _ _)
   | (with_reducible exact spec_DrawQuantile.mono _ _)
   | (with_reducible exact spec_Quantile.mono _ _ _ _ _ _ _ _ _)
   | (with_reducible exact spec_SketchOk.mono _ _ _ _ _ _ _ _)
   | (with_reducible exact LeO.refl _)
   | (with_reducible exact LeO.none _)
   | (with_reducible refine LeO.ite ?_ ?_)
   | (with_reducible refine LeO.bind ?_ (fun _ => ?_))
   | exact ih0 _ _ _ _ _ _ _ _ _ _ _
   | exact ih1 _ _ _ _ _ _ _ _ _ _ _
   | exact ih2 _ _ _ _ _ _ _ _ _ _ _ _
   | exact ih3 _ _ _ _ _ _ _ _ _ _ _ _ _ _
   | exact impl_BucketOf.mono _ _
   | exact impl_Quantile.mono _ _ _ _ _ _ _ _ _
   | exact spec_DrawQuantile.mono _ _
   | exact spec_Quantile.mono _ _ _ _ _ _ _ _ _
   | exact spec_SketchOk.mono _ _ _ _ _ _ _ _
   | exact LeO.none _
   | refine LeO.ite ?_ ?_
   | refine LeO.bind ?_ (fun _ => ?_)
theorem laws_FnQuantiles.mono : ∀ a0 k, LeO (laws_FnQuantiles.f k a0) (laws_FnQuantiles.f (k + 1) a0) := by
 intro a0 k
 obtain ⟨ih0, ih1, ih2, ih3⟩ := laws_FnQuantiles.mono_l k
 unfold laws_FnQuantiles.f
 repeat' first
   | (with_reducible exact ih0 _ _ _ _ _ _ _ _ _ _ _)
   | (with_reducible exact ih1 _ _ _ _ _ _ _ _ _ _ _)
   | (with_reducible exact ih2 _ _ _ _ _ _ _ _ _ _ _ _)
   | (with_reducible exact ih3 _ _ _ _ _ _ _ _ _ _ _ _ _ _)
   | (with_reducible exact impl_BucketOf.mono _ _)
   | (with_reducible exact impl_Quantile.mono _ _ _ _ _ _ _ _ _)
   | (with_reducible exact spec_DrawQuantile.mono _ _)
   | (with_reducible exact spec_Quantile.mono _ _ _ _ _ _ _ _ _)
   | (with_reducible exact spec_SketchOk.mono _ _ _ _ _ _ _ _)
   | (with_reducible exact LeO.refl _)
   | (with_reducible exact LeO.none _)
   | (with_reducible refine LeO.ite ?_ ?_)
   | (with_reducible refine LeO.bind ?_ (fun _ => ?_))
   | exact ih0 _ _ _ _ _ _ _ _ _ _ _
   | exact ih1 _ _ _ _ _ _ _ _ _ _ _
   | exact ih2 _ _ _ _ _ _ _ _ _ _ _ _
   | exact ih3 _ _ _ _ _ _ _ _ _ _ _ _ _ _
   | exact impl_BucketOf.mono _ _
   | exact impl_Quantile.mono _ _ _ _ _ _ _ _ _
   | exact spec_DrawQuantile.mono _ _
   | exact spec_Quantile.mono _ _ _ _ _ _ _ _ _
   | exact spec_SketchOk.mono _ _ _ _ _ _ _ _
   | exact LeO.none _
   | refine LeO.ite ?_ ?_
   | refine LeO.bind ?_ (fun _ => ?_)
set_option maxHeartbeats 8000000 in
set_option maxRecDepth 100000 in
theorem laws_FnQuantiles.calls (k : Nat) (A0 : Option Addr) (c0 : Nat) (l0 : List Int) (r : Bool) (w : World) (hr0 : Kd.C (Kd.int .u8) w A0 l0.length l0) (hc0 : l0.length ≤ c0) (hrt : Aside0 (r = true)) (h : laws_FnQuantiles.f k l0 = some r) :
  Calls Try.prog 8 #[.slice A0 l0.length c0] w fun e w' => e = .returned (.bool r) ∧ Below w.heap.size w w' := by
 have hu26 := Try.underlying26
 have HR0 := Aside0.mk hr0
 have HC0 := Aside0.mk hc0
 clear hr0 hc0
 have HB := Aside0.mk (Below.refl w.heap.size w)
 have H : ((laws_big.f l0).bind fun t389 => (if t389 = true then (some true) else ((spec_DrawQuantile.f k l0).bind fun bt390 => ((impl_Quantile.f k bt390.1 bt390.2.1 bt390.2.2.1 bt390.2.2.2.1 bt390.2.2.2.2.1 bt390.2.2.2.2.2.1 bt390.2.2.2.2.2.2.1 bt390.2.2.2.2.2.2.2).bind fun bt405 => ((spec_Quantile.f k bt390.1 bt390.2.1 bt390.2.2.1 bt390.2.2.2.1 bt390.2.2.2.2.1 bt390.2.2.2.2.2.1 bt390.2.2.2.2.2.2.1 bt390.2.2.2.2.2.2.2).bind fun bt407 => (if bt405.1 = bt407.1 then (laws_FnQuantiles.j0 k bt390.2.2.2.2.2.2.2 bt405.1 bt405.2 (bt405.2 != bt407.2) bt390.1 bt390.2.1 bt390.2.2.1 bt390.2.2.2.1 bt390.2.2.2.2.1 bt390.2.2.2.2.2.1 bt390.2.2.2.2.2.2.1) else (laws_FnQuantiles.j0 k bt390.2.2.2.2.2.2.2 bt405.1 bt405.2 true bt390.1 bt390.2.1 bt390.2.2.1 bt390.2.2.2.1 bt390.2.2.2.2.1 bt390.2.2.2.2.2.1 bt390.2.2.2.2.2.2.1))))))) = some r := h
 clear h
 replace H := Option.bind_eq_some_iff.mp H
 obtain ⟨t389, A20, H⟩ := H
 replace H : (if t389 = true then (some true) else ((spec_DrawQuantile.f k l0).bind fun bt390 => ((impl_Quantile.f k bt390.1 bt390.2.1 bt390.2.2.1 bt390.2.2.2.1 bt390.2.2.2.2.1 bt390.2.2.2.2.2.1 bt390.2.2.2.2.2.2.1 bt390.2.2.2.2.2.2.2).bind fun bt405 => ((spec_Quantile.f k bt390.1 bt390.2.1 bt390.2.2.1 bt390.2.2.2.1 bt390.2.2.2.2.1 bt390.2.2.2.2.2.1 bt390.2.2.2.2.2.2.1 bt390.2.2.2.2.2.2.2).bind fun bt407 => (if bt405.1 = bt407.1 then (laws_FnQuantiles.j0 k bt390.2.2.2.2.2.2.2 bt405.1 bt405.2 (bt405.2 != bt407.2) bt390.1 bt390.2.1 bt390.2.2.1 bt390.2.2.2.1 bt390.2.2.2.2.1 bt390.2.2.2.2.2.1 bt390.2.2.2.2.2.2.1) else (laws_FnQuantiles.j0 k bt390.2.2.2.2.2.2.2 bt405.1 bt405.2 true bt390.1 bt390.2.1 bt390.2.2.1 bt390.2.2.2.1 bt390.2.2.2.2.1 bt390.2.2.2.2.2.1 bt390.2.2.2.2.2.2.1)))))) = some r := H
 have A2 := Aside0.mk A20
 clear A20
 by_cases c3 : t389 = true
 ·subst c3
  have H1 : (some true) = some r := by rw [if_pos rfl] at H; exact H
  clear H
  have H := H1
  clear H1
  obtain rfl := Option.some.inj H
  simp only [Option.some.injEq, Prod.mk.injEq] at H
  obtain ⟨rfl⟩ := H
  go_enter Try.func8, Try.ntmps8
  go_wp2_with (first | ((with_reducible refine gate_callee (f := 30) rfl ?_); refine goesL_ (some 17) rfl rfl Try.func30 (by kernel_rfl) rfl #[.slice A0 l0.length c0] rfl Z14x5 ?_; (with_reducible refine (laws_big.calls _ _ l0 true _ ?side1 ?side2 A2.out).mono ?_); (case side1 => exact Z14x18); (case side2 => exact HC0.out); rintro e w' ⟨rfl, ⟨nd, rfl⟩⟩; refine ⟨_, rfl, ?_⟩))
  go_ret
  exact ⟨Z14x19, Z14x6⟩
 ·replace c3 := Bool.eq_false_iff.mpr c3
  subst c3
  have H1 : ((spec_DrawQuantile.f k l0).bind fun bt390 => ((impl_Quantile.f k bt390.1 bt390.2.1 bt390.2.2.1 bt390.2.2.2.1 bt390.2.2.2.2.1 bt390.2.2.2.2.2.1 bt390.2.2.2.2.2.2.1 bt390.2.2.2.2.2.2.2).bind fun bt405 => ((spec_Quantile.f k bt390.1 bt390.2.1 bt390.2.2.1 bt390.2.2.2.1 bt390.2.2.2.2.1 bt390.2.2.2.2.2.1 bt390.2.2.2.2.2.2.1 bt390.2.2.2.2.2.2.2).bind fun bt407 => (if bt405.1 = bt407.1 then (laws_FnQuantiles.j0 k bt390.2.2.2.2.2.2.2 bt405.1 bt405.2 (bt405.2 != bt407.2) bt390.1 bt390.2.1 bt390.2.2.1 bt390.2.2.2.1 bt390.2.2.2.2.1 bt390.2.2.2.2.2.1 bt390.2.2.2.2.2.2.1) else (laws_FnQuantiles.j0 k bt390.2.2.2.2.2.2.2 bt405.1 bt405.2 true bt390.1 bt390.2.1 bt390.2.2.1 bt390.2.2.2.1 bt390.2.2.2.2.1 bt390.2.2.2.2.2.1 bt390.2.2.2.2.2.2.1))))) = some r := by rw [if_neg (show ¬ (false = true) by decide)] at H; exact H
  clear H
  have H := H1
  clear H1
  replace H := Option.bind_eq_some_iff.mp H
  obtain ⟨⟨t390, t391, t392, t393, t394, t397, t400, t403⟩, A40, H⟩ := H
  replace H : ((impl_Quantile.f k t390 t391 t392 t393 t394 t397 t400 t403).bind fun bt405 => ((spec_Quantile.f k t390 t391 t392 t393 t394 t397 t400 t403).bind fun bt407 => (if bt405.1 = bt407.1 then (laws_FnQuantiles.j0 k t403 bt405.1 bt405.2 (bt405.2 != bt407.2) t390 t391 t392 t393 t394 t397 t400) else (laws_FnQuantiles.j0 k t403 bt405.1 bt405.2 true t390 t391 t392 t393 t394 t397 t400)))) = some r := H
  have A4 := Aside0.mk A40
  clear A40
  replace H := Option.bind_eq_some_iff.mp H
  obtain ⟨⟨t405, t406⟩, A50, H⟩ := H
  replace H : ((spec_Quantile.f k t390 t391 t392 t393 t394 t397 t400 t403).bind fun bt407 => (if t405 = bt407.1 then (laws_FnQuantiles.j0 k t403 t405 t406 (t406 != bt407.2) t390 t391 t392 t393 t394 t397 t400) else (laws_FnQuantiles.j0 k t403 t405 t406 true t390 t391 t392 t393 t394 t397 t400))) = some r := H
  have A5 := Aside0.mk A50
  clear A50
  replace H := Option.bind_eq_some_iff.mp H
  obtain ⟨⟨t407, t408⟩, A60, H⟩ := H
  replace H : (if t405 = t407 then (laws_FnQuantiles.j0 k t403 t405 t406 (t406 != t408) t390 t391 t392 t393 t394 t397 t400) else (laws_FnQuantiles.j0 k t403 t405 t406 true t390 t391 t392 t393 t394 t397 t400)) = some r := H
  have A6 := Aside0.mk A60
  clear A60
  have HC7 := Aside0.mk H
  clear H
  go_enter Try.func8, Try.ntmps8
  go_upto_region 6 with (first | ((with_reducible refine gate_callee (f := 30) rfl ?_); refine goesL_ (some 17) rfl rfl Try.func30 (by kernel_rfl) rfl #[.slice A0 l0.length c0] rfl Z14x5 ?_; (with_reducible refine (laws_big.calls _ _ l0 false _ ?side1 ?side2 A2.out).mono ?_); (case side1 => exact Z14x18); (case side2 => exact HC0.out); rintro e w' ⟨rfl, ⟨nd, rfl⟩⟩; refine ⟨_, rfl, ?_⟩) | ((with_reducible refine gate_callee (f := 36) rfl ?_); refine goesL_ (some 20) rfl rfl Try.func36 (by kernel_rfl) rfl #[.slice A0 l0.length c0] rfl Z14x5 ?_; (with_reducible refine (spec_DrawQuantile.calls k _ _ l0 t390 t391 t392 t393 t394 t397 t400 t403 _ ?side1 ?side2 A4.out).mono ?_); (case side1 => exact Z14x18); (case side2 => exact HC0.out); rintro e w8 ⟨v395, v398, v401, rfl, ho0, ho1, ho2, hb⟩; refine ⟨_, rfl, ?_⟩; have n0_ := Aside0.mk (Kd.R_lower ho0 (below_size Z14x6)); have n1_ := Aside0.mk (Kd.R_lower ho1 (below_size Z14x6)); have n2_ := Aside0.mk (Kd.S_lower ho2 (below_size Z14x6)); have n3_ := Aside0.mk (below_step Z14x6 hb); clear HB; have HO396 := n0_; have HO399 := n1_; have HO402 := n2_; have HB := n3_; clear n0_ n1_ n2_ n3_; (try clear hb); (try clear hb2); (try clear hk); (try clear hi); (try clear ho0); (try clear ho1); (try clear ho2)) | ((with_reducible refine gate_dst (N := 3) rfl ?_); refine box_event ?hg (N := 3) ?hd (cs := #[.int .i64 0, .int .i64 0, .int .i64 0, .int .i64 0, .slice none 0 0, .slice none 0 0, .slice none 0 0]) (t := 26) ?hr ?_; (case hd => rfl); (case hg => rfl); (case hr => first | (go_simp; done) | (go_simp; rfl)); intro gb404 hg w9 hbox hb; have n0_ := Aside0.mk (Kd.R_below Z14x15 hb); have n1_ := Aside0.mk (Kd.R_below Z14x16 hb); have n2_ := Aside0.mk (Kd.S_below Z14x17 hb); have n3_ := Aside0.mk (below_step Z14x6 hb); have n4_ := Aside0.mk (hbox); have n5_ := Aside0.mk ((by rw [hg]; exact (below_size Z14x6) : w.heap.size ≤ gb404)); have n6_ := Aside0.mk ((by rw [hg]; exact (below_size Z14x6) : w.heap.size ≤ gb404)); clear HO396; clear HO399; clear HO402; clear HB; have HO396 := n0_; have HO399 := n1_; have HO402 := n2_; have HB := n3_; have BK404 := n4_; have GW404 := n5_; have GE404 := n6_; clear n0_ n1_ n2_ n3_ n4_ n5_ n6_; clear hb hbox hg; have hcz10_0 : w9.cell? ⟨gb404, 0, none⟩ = some (.int .i64 0) := (blk_cell BK404.out 0).trans rfl; have hcz10_1 : w9.cell? ⟨gb404, 1, none⟩ = some (.int .i64 0) := (blk_cell BK404.out 1).trans rfl; have hcz10_2 : w9.cell? ⟨gb404, 2, none⟩ = some (.int .i64 0) := (blk_cell BK404.out 2).trans rfl; have hcz10_3 : w9.cell? ⟨gb404, 3, none⟩ = some (.int .i64 0) := (blk_cell BK404.out 3).trans rfl; have hcz10_4 : w9.cell? ⟨gb404, 4, none⟩ = some (.slice none 0 0) := (blk_cell BK404.out 4).trans rfl; have hcz10_5 : w9.cell? ⟨gb404, 5, none⟩ = some (.slice none 0 0) := (blk_cell BK404.out 5).trans rfl; have hcz10_6 : w9.cell? ⟨gb404, 6, none⟩ = some (.slice none 0 0) := (blk_cell BK404.out 6).trans rfl; have hfz10_0 := blk_frozen BK404.out 0; have hfz10_1 := blk_frozen BK404.out 1; have hfz10_2 := blk_frozen BK404.out 2; have hfz10_3 := blk_frozen BK404.out 3; have hfz10_4 := blk_frozen BK404.out 4; have hfz10_5 := blk_frozen BK404.out 5; have hfz10_6 := blk_frozen BK404.out 6; obtain ⟨Ao11, co11, eo11⟩ := Kd.R_slice HO396.out; subst eo11; obtain ⟨Ao12, co12, eo12⟩ := Kd.R_slice HO399.out; subst eo12; obtain ⟨Ao13, co13, eo13⟩ := Kd.S_slice HO402.out; subst eo13) | ((with_reducible refine gate_callee (f := 37) rfl ?_); refine goesL_ (some 26) rfl rfl Try.func37 (by kernel_rfl) rfl #[.agg #[.int .i64 t390, .int .i64 t391, .int .i64 t392, .int .i64 t393, .slice Ao11 t394.length co11, .slice Ao12 t397.length co12, .slice Ao13 t400.length co13], .int .i64 t403] rfl Z14x5 ?_; (with_reducible refine (impl_Quantile.calls k t390 t391 t392 t393 _ _ t394 _ _ t397 _ _ t400 t403 t405 t406 _ ?side1 ?side2 ?side3 ?side4 ?side5 ?side6 A5.out).mono ?_); (case side1 => refine (Kd.R_reads' (e := 3) (base := w.heap.size) (ok := fun k_ => some k_ ≠ (.slice Ao12 t397.length co12 : Value).ownBlock) (n := t394.length) (c := co11) ?_).2.2; exact Z14x7); (case side2 => exact (Kd.R_reads' HO396.out).2.1); (case side3 => refine (Kd.R_reads' (e := 3) (base := w.heap.size) (ok := fun k_ => some k_ ≠ (.slice Ao11 t394.length co11 : Value).ownBlock) (n := t397.length) (c := co12) ?_).2.2; exact Z14x8); (case side4 => exact (Kd.R_reads' HO399.out).2.1); (case side5 => refine (Kd.S_reads' (e := 23) (base := w.heap.size) (ok := fun k_ => (some k_ ≠ (.slice Ao11 t394.length co11 : Value).ownBlock ∧ some k_ ≠ (.slice Ao12 t397.length co12 : Value).ownBlock)) (n := t400.length) (c := co13) ?_).2.2; exact Z14x9); (case side6 => exact (Kd.S_reads' HO402.out).2.1); rintro e w14 ⟨rfl, hb⟩; refine ⟨_, rfl, ?_⟩; have n0_ := Aside0.mk (Kd.R_below Z14x7 hb); have n1_ := Aside0.mk (Kd.R_below Z14x8 hb); have n2_ := Aside0.mk (Kd.S_below Z14x9 hb); have n3_ := Aside0.mk (blk_below (g := gb404) (o := .cells #[.int .i64 t390, .int .i64 t391, .int .i64 t392, .int .i64 t393, .slice Ao11 t394.length co11, .slice Ao12 t397.length co12, .slice Ao13 t400.length co13] 26 (0, 0)) (by (with_reducible repeat (first | refine blk_drewN ?_ _ | refine blk_drew ?_ | refine blk_alloc ?_ _)); refine blk_put (cs := #[.int .i64 t390, .int .i64 t391, .int .i64 t392, .int .i64 t393, .slice Ao11 t394.length co11, .slice Ao12 t397.length co12, .slice none 0 0]) ?_ 6 _ rfl; (with_reducible repeat (first | refine blk_drewN ?_ _ | refine blk_drew ?_ | refine blk_alloc ?_ _)); refine blk_put (cs := #[.int .i64 t390, .int .i64 t391, .int .i64 t392, .int .i64 t393, .slice Ao11 t394.length co11, .slice none 0 0, .slice none 0 0]) ?_ 5 _ rfl; (with_reducible repeat (first | refine blk_drewN ?_ _ | refine blk_drew ?_ | refine blk_alloc ?_ _)); refine blk_put (cs := #[.int .i64 t390, .int .i64 t391, .int .i64 t392, .int .i64 t393, .slice none 0 0, .slice none 0 0, .slice none 0 0]) ?_ 4 _ rfl; (with_reducible repeat (first | refine blk_drewN ?_ _ | refine blk_drew ?_ | refine blk_alloc ?_ _)); refine blk_put (cs := #[.int .i64 t390, .int .i64 t391, .int .i64 t392, .int .i64 0, .slice none 0 0, .slice none 0 0, .slice none 0 0]) ?_ 3 _ rfl; (with_reducible repeat (first | refine blk_drewN ?_ _ | refine blk_drew ?_ | refine blk_alloc ?_ _)); refine blk_put (cs := #[.int .i64 t390, .int .i64 t391, .int .i64 0, .int .i64 0, .slice none 0 0, .slice none 0 0, .slice none 0 0]) ?_ 2 _ rfl; (with_reducible repeat (first | refine blk_drewN ?_ _ | refine blk_drew ?_ | refine blk_alloc ?_ _)); refine blk_put (cs := #[.int .i64 t390, .int .i64 0, .int .i64 0, .int .i64 0, .slice none 0 0, .slice none 0 0, .slice none 0 0]) ?_ 1 _ rfl; (with_reducible repeat (first | refine blk_drewN ?_ _ | refine blk_drew ?_ | refine blk_alloc ?_ _)); refine blk_put (cs := #[.int .i64 0, .int .i64 0, .int .i64 0, .int .i64 0, .slice none 0 0, .slice none 0 0, .slice none 0 0]) ?_ 0 _ rfl; (with_reducible repeat (first | refine blk_drewN ?_ _ | refine blk_drew ?_ | refine blk_alloc ?_ _)); exact BK404.out) hb); have n4_ := Aside0.mk (below_step Z14x0 hb); clear HO396; clear HO399; clear HO402; clear BK404; clear HB; have HO396 := n0_; have HO399 := n1_; have HO402 := n2_; have BK404 := n3_; have HB := n4_; clear n0_ n1_ n2_ n3_ n4_; (try clear hb); (try clear hb2); (try clear hk); (try clear hi); have hcz15_0 : w14.cell? ⟨gb404, 0, none⟩ = some (.int .i64 t390) := (blk_cell BK404.out 0).trans rfl; have hcz15_1 : w14.cell? ⟨gb404, 1, none⟩ = some (.int .i64 t391) := (blk_cell BK404.out 1).trans rfl; have hcz15_2 : w14.cell? ⟨gb404, 2, none⟩ = some (.int .i64 t392) := (blk_cell BK404.out 2).trans rfl; have hcz15_3 : w14.cell? ⟨gb404, 3, none⟩ = some (.int .i64 t393) := (blk_cell BK404.out 3).trans rfl; have hcz15_4 : w14.cell? ⟨gb404, 4, none⟩ = some (.slice Ao11 t394.length co11) := (blk_cell BK404.out 4).trans rfl; have hcz15_5 : w14.cell? ⟨gb404, 5, none⟩ = some (.slice Ao12 t397.length co12) := (blk_cell BK404.out 5).trans rfl; have hcz15_6 : w14.cell? ⟨gb404, 6, none⟩ = some (.slice Ao13 t400.length co13) := (blk_cell BK404.out 6).trans rfl; have hfz15_0 := blk_frozen BK404.out 0; have hfz15_1 := blk_frozen BK404.out 1; have hfz15_2 := blk_frozen BK404.out 2; have hfz15_3 := blk_frozen BK404.out 3; have hfz15_4 := blk_frozen BK404.out 4; have hfz15_5 := blk_frozen BK404.out 5; have hfz15_6 := blk_frozen BK404.out 6) | ((with_reducible refine gate_callee (f := 38) rfl ?_); refine goesL_ (some 32) rfl rfl Try.func38 (by kernel_rfl) rfl #[.agg #[.int .i64 t390, .int .i64 t391, .int .i64 t392, .int .i64 t393, .slice Ao11 t394.length co11, .slice Ao12 t397.length co12, .slice Ao13 t400.length co13], .int .i64 t403] rfl Z14x5 ?_; (with_reducible refine (spec_Quantile.calls k t390 t391 t392 t393 _ _ t394 _ _ t397 _ _ t400 t403 t407 t408 _ ?side1 ?side2 ?side3 ?side4 ?side5 ?side6 A6.out).mono ?_); (case side1 => repeat (first | exact (Kd.R_reads' HO396.out).2.2 | (with_reducible refine Kd.C_alloc ?_ _) | (with_reducible refine Kd.C_drewN ?_ _) | (with_reducible refine Kd.C_drew ?_))); (case side2 => exact (Kd.R_reads' HO396.out).2.1); (case side3 => repeat (first | exact (Kd.R_reads' HO399.out).2.2 | (with_reducible refine Kd.C_alloc ?_ _) | (with_reducible refine Kd.C_drewN ?_ _) | (with_reducible refine Kd.C_drew ?_))); (case side4 => exact (Kd.R_reads' HO399.out).2.1); (case side5 => repeat (first | exact (Kd.S_reads' HO402.out).2.2 | (with_reducible refine Kd.C_alloc ?_ _) | (with_reducible refine Kd.C_drewN ?_ _) | (with_reducible refine Kd.C_drew ?_))); (case side6 => exact (Kd.S_reads' HO402.out).2.1); rintro e w16 ⟨rfl, hb⟩; refine ⟨_, rfl, ?_⟩; have n0_ := Aside0.mk (Kd.R_below Z14x15 hb); have n1_ := Aside0.mk (Kd.R_below Z14x16 hb); have n2_ := Aside0.mk (Kd.S_below Z14x17 hb); have n3_ := Aside0.mk (blk_below (g := gb404) (o := .cells #[.int .i64 t390, .int .i64 t391, .int .i64 t392, .int .i64 t393, .slice Ao11 t394.length co11, .slice Ao12 t397.length co12, .slice Ao13 t400.length co13] 26 (0, 0)) Z14x1 hb); have n4_ := Aside0.mk (below_step Z14x0 hb); clear HO396; clear HO399; clear HO402; clear BK404; clear HB; have HO396 := n0_; have HO399 := n1_; have HO402 := n2_; have BK404 := n3_; have HB := n4_; clear n0_ n1_ n2_ n3_ n4_; (try clear hb); (try clear hb2); (try clear hk); (try clear hi)))
  (try simp only [Act.put, List.setIfInBounds_toArray, List.set_cons_zero, List.set_cons_succ])
  go_cut [42] (fun v42 wc => ∃ (kq : Nat) (x42_6 : Bool), v42 = .bool x42_6 ∧ Aside0 (laws_FnQuantiles.j0 kq t403 t405 t406 x42_6 t390 t391 t392 t393 t394 t397 t400 = some r) ∧ Aside0 (kq ≤ k) ∧ Aside0 (Kd.R (Kd.int .i64) 3 wc w.heap.size (fun k_ => some k_ ≠ ((.slice Ao12 t397.length co12) : Value).ownBlock) (.slice Ao11 t394.length co11) t394) ∧ Aside0 (Kd.R (Kd.int .i64) 3 wc w.heap.size (fun k_ => some k_ ≠ ((.slice Ao11 t394.length co11) : Value).ownBlock) (.slice Ao12 t397.length co12) t397) ∧ Aside0 (Kd.S (Kd.slice 3 (Kd.int .i64)) 23 wc w.heap.size (fun k_ => some k_ ≠ ((.slice Ao11 t394.length co11) : Value).ownBlock ∧ some k_ ≠ ((.slice Ao12 t397.length co12) : Value).ownBlock) (.slice Ao13 t400.length co13) t400) ∧ Aside0 (wc.heap[gb404]? = some (.cells #[.int .i64 t390, .int .i64 t391, .int .i64 t392, .int .i64 t393, (.slice Ao11 t394.length co11), (.slice Ao12 t397.length co12), (.slice Ao13 t400.length co13)] 26 (0, 0))) ∧ Aside0 (Below w.heap.size w wc))
  case first =>
   have H := HC7.out
   clear HC7
   by_cases c17 : t405 = t407
   ·rw [if_pos c17] at H
    have c17b0 : (t405 == t407) = true := beq_iff_eq.mpr c17
    have c17b1 : (t405 != t407) = false := bne_eq_false_iff_eq.mpr c17
    clear c17
    (first | rw [c17b0] | (simp only [i64_w, i32_w]; rw [c17b0]) | rw [c17b1] | rw [c17b2] | rw [c17b3] | skip)
    have H' := Aside0.mk H
    clear H
    go_wp2
    (first | go_meet | (refine Met.intro ?_; go_step; (repeat apply Exists.intro); refine ⟨?rel, ?eqs⟩; case eqs => ((try rw [show (t405 != t407) = true from by assumption]); (try rw [show (t405 != t407) = false from by assumption]); (try rw [show (t406 != t408) = true from by assumption]); (try rw [show (t406 != t408) = false from by assumption]); (try rfl))))
    case rel => exact ⟨_, ((t406 != t408)), Z14x13, H', ⟨by first | omega | exact Nat.le_refl _⟩, ⟨Z14x15⟩, ⟨Z14x16⟩, ⟨Z14x17⟩, ⟨Z14x1⟩, ⟨Z14x0⟩⟩
   ·rw [if_neg c17] at H
    have c17b0 : (t405 == t407) = false := beq_eq_false_iff_ne.mpr c17
    have c17b1 : (t405 != t407) = true := bne_iff_ne.mpr c17
    (first | rw [c17b0] | (simp only [i64_w, i32_w]; rw [c17b0]) | rw [c17b1] | rw [c17b2] | rw [c17b3] | skip)
    have H' := Aside0.mk H
    clear H
    go_wp2
    (first | go_meet | (refine Met.intro ?_; go_step; (repeat apply Exists.intro); refine ⟨?rel, ?eqs⟩; case eqs => ((try rw [show (t405 != t407) = true from by assumption]); (try rw [show (t405 != t407) = false from by assumption]); (try rfl))))
    case rel => exact ⟨_, (true), Z14x13, H', ⟨by first | omega | exact Nat.le_refl _⟩, ⟨Z14x15⟩, ⟨Z14x16⟩, ⟨Z14x17⟩, ⟨Z14x1⟩, ⟨Z14x0⟩⟩
  case rest =>
   clear HC7
   try clear c1
   try clear p2
   try clear c3
   try clear c8
   try clear c17
   try clear c17b0
   try clear c17b1
   try clear c17b2
   try clear hcz10_0
   try clear hcz10_1
   try clear hcz10_2
   try clear hcz10_3
   try clear hcz10_4
   try clear hcz10_5
   try clear hcz10_6
   try clear hcz15_0
   try clear hcz15_1
   try clear hcz15_2
   try clear hcz15_3
   try clear hcz15_4
   try clear hcz15_5
   try clear hcz15_6
   try clear hfz10_0
   try clear hfz10_1
   try clear hfz10_2
   try clear hfz10_3
   try clear hfz10_4
   try clear hfz10_5
   try clear hfz10_6
   try clear hfz15_0
   try clear hfz15_1
   try clear hfz15_2
   try clear hfz15_3
   try clear hfz15_4
   try clear hfz15_5
   try clear hfz15_6
   obtain ⟨kq, x42_6, rfl, HA, HJ6, HO_405004, HO_405005, HO_405006, BK404, HB⟩ := hcut
   cases kq with
   | zero => exact absurd HA.out (by simp [laws_FnQuantiles.j0])
   | succ kj6 =>
    have H := HA.out
    clear HA
    simp only [laws_FnQuantiles.j0] at H
    by_cases c18 : x42_6 = true
    ·subst c18
     have H1 : (some false) = some r := by rw [if_pos rfl] at H; exact H
     clear H
     have H := H1
     clear H1
     obtain rfl := Option.some.inj H
     exact absurd hrt.out (by decide)
    ·replace c18 := Bool.eq_false_iff.mpr c18
     subst c18
     have H1 : ((spec_SketchOk.f kj6 t390 t391 t392 t393 t394 t397 t400).bind fun t409 => (if t409 = true then (if t390 = 0 then (laws_FnQuantiles.j1 kj6 t403 t405 t406 true t390 t391 t392 t393 t394 t397 t400) else (if t403 < 1 then (laws_FnQuantiles.j1 kj6 t403 t405 t406 true t390 t391 t392 t393 t394 t397 t400) else (laws_FnQuantiles.j1 kj6 t403 t405 t406 (decide (t403 > 1000)) t390 t391 t392 t393 t394 t397 t400))) else (laws_FnQuantiles.j1 kj6 t403 t405 t406 true t390 t391 t392 t393 t394 t397 t400))) = some r := by rw [if_neg (show ¬ (false = true) by decide)] at H; exact H
     clear H
     have H := H1
     clear H1
     have HC19 := Aside0.mk H
     clear H
     go_upto_region 8 with (fail)
     go_cut [58] (fun v58 wc => ∃ (kq : Nat) (x58_18 : Bool), v58 = .bool x58_18 ∧ Aside0 (laws_FnQuantiles.j1 kq t403 t405 t406 x58_18 t390 t391 t392 t393 t394 t397 t400 = some r) ∧ Aside0 (kq ≤ kj6) ∧ Aside0 (Kd.R (Kd.int .i64) 3 wc w.heap.size (fun k_ => some k_ ≠ ((.slice Ao12 t397.length co12) : Value).ownBlock) (.slice Ao11 t394.length co11) t394) ∧ Aside0 (Kd.R (Kd.int .i64) 3 wc w.heap.size (fun k_ => some k_ ≠ ((.slice Ao11 t394.length co11) : Value).ownBlock) (.slice Ao12 t397.length co12) t397) ∧ Aside0 (Kd.S (Kd.slice 3 (Kd.int .i64)) 23 wc w.heap.size (fun k_ => some k_ ≠ ((.slice Ao11 t394.length co11) : Value).ownBlock ∧ some k_ ≠ ((.slice Ao12 t397.length co12) : Value).ownBlock) (.slice Ao13 t400.length co13) t400) ∧ Aside0 (wc.heap[gb404]? = some (.cells #[.int .i64 t390, .int .i64 t391, .int .i64 t392, .int .i64 t393, (.slice Ao11 t394.length co11), (.slice Ao12 t397.length co12), (.slice Ao13 t400.length co13)] 26 (0, 0))) ∧ Aside0 (Below w.heap.size w wc))
     case first =>
      have H := HC19.out
      clear HC19
      replace H := Option.bind_eq_some_iff.mp H
      obtain ⟨t409, A200, H⟩ := H
      replace H : (if t409 = true then (if t390 = 0 then (laws_FnQuantiles.j1 kj6 t403 t405 t406 true t390 t391 t392 t393 t394 t397 t400) else (if t403 < 1 then (laws_FnQuantiles.j1 kj6 t403 t405 t406 true t390 t391 t392 t393 t394 t397 t400) else (laws_FnQuantiles.j1 kj6 t403 t405 t406 (decide (t403 > 1000)) t390 t391 t392 t393 t394 t397 t400))) else (laws_FnQuantiles.j1 kj6 t403 t405 t406 true t390 t391 t392 t393 t394 t397 t400)) = some r := H
      have A20 := Aside0.mk A200
      clear A200
      by_cases c21 : t409 = true
      ·subst c21
       have H1 : (if t390 = 0 then (laws_FnQuantiles.j1 kj6 t403 t405 t406 true t390 t391 t392 t393 t394 t397 t400) else (if t403 < 1 then (laws_FnQuantiles.j1 kj6 t403 t405 t406 true t390 t391 t392 t393 t394 t397 t400) else (laws_FnQuantiles.j1 kj6 t403 t405 t406 (decide (t403 > 1000)) t390 t391 t392 t393 t394 t397 t400))) = some r := by rw [if_pos rfl] at H; exact H
       clear H
       have H := H1
       clear H1
       by_cases c22 : t390 = 0
       ·rw [if_pos c22] at H
        have c22b0 : (t390 == 0) = true := beq_iff_eq.mpr c22
        have c22b1 : (t390 != 0) = false := bne_eq_false_iff_eq.mpr c22
        clear c22
        (first | rw [c22b0] | (simp only [i64_w, i32_w]; rw [c22b0]) | rw [c22b1] | rw [c22b2] | rw [c22b3] | skip)
        have H' := Aside0.mk H
        clear H
        have hcz23_0 : wc.cell? ⟨gb404, 0, none⟩ = some (.int .i64 t390) := (blk_cell BK404.out 0).trans rfl
        have hcz23_1 : wc.cell? ⟨gb404, 1, none⟩ = some (.int .i64 t391) := (blk_cell BK404.out 1).trans rfl
        have hcz23_2 : wc.cell? ⟨gb404, 2, none⟩ = some (.int .i64 t392) := (blk_cell BK404.out 2).trans rfl
        have hcz23_3 : wc.cell? ⟨gb404, 3, none⟩ = some (.int .i64 t393) := (blk_cell BK404.out 3).trans rfl
        have hcz23_4 : wc.cell? ⟨gb404, 4, none⟩ = some (.slice Ao11 t394.length co11) := (blk_cell BK404.out 4).trans rfl
        have hcz23_5 : wc.cell? ⟨gb404, 5, none⟩ = some (.slice Ao12 t397.length co12) := (blk_cell BK404.out 5).trans rfl
        have hcz23_6 : wc.cell? ⟨gb404, 6, none⟩ = some (.slice Ao13 t400.length co13) := (blk_cell BK404.out 6).trans rfl
        have hfz23_0 := blk_frozen BK404.out 0
        have hfz23_1 := blk_frozen BK404.out 1
        have hfz23_2 := blk_frozen BK404.out 2
        have hfz23_3 := blk_frozen BK404.out 3
        have hfz23_4 := blk_frozen BK404.out 4
        have hfz23_5 := blk_frozen BK404.out 5
        have hfz23_6 := blk_frozen BK404.out 6
        go_wp2_with (first | ((with_reducible refine gate_callee (f := 39) rfl ?_); refine goesL_ (some 44) rfl rfl Try.func39 (by kernel_rfl) rfl #[.agg #[.int .i64 t390, .int .i64 t391, .int .i64 t392, .int .i64 t393, .slice Ao11 t394.length co11, .slice Ao12 t397.length co12, .slice Ao13 t400.length co13]] rfl Z14x5 ?_; (with_reducible refine (spec_SketchOk.calls kj6 t390 t391 t392 t393 _ _ t394 _ _ t397 _ _ t400 true _ ?side1 ?side2 ?side3 ?side4 ?side5 ?side6 A20.out).mono ?_); (case side1 => exact Z14x10); (case side2 => exact (Kd.R_reads' HO_405004.out).2.1); (case side3 => exact Z14x11); (case side4 => exact (Kd.R_reads' HO_405005.out).2.1); (case side5 => exact Z14x12); (case side6 => exact (Kd.S_reads' HO_405006.out).2.1); rintro e w24 ⟨rfl, hb⟩; refine ⟨_, rfl, ?_⟩; have n0_ := Aside0.mk (Kd.R_below Z14x2 hb); have n1_ := Aside0.mk (Kd.R_below Z14x3 hb); have n2_ := Aside0.mk (Kd.S_below Z14x4 hb); have n3_ := Aside0.mk (blk_below (g := gb404) (o := .cells #[.int .i64 t390, .int .i64 t391, .int .i64 t392, .int .i64 t393, .slice Ao11 t394.length co11, .slice Ao12 t397.length co12, .slice Ao13 t400.length co13] 26 (0, 0)) Z14x1 hb); have n4_ := Aside0.mk (below_step Z14x0 hb); clear HO_405004; clear HO_405005; clear HO_405006; clear BK404; clear HB; have HO_405004 := n0_; have HO_405005 := n1_; have HO_405006 := n2_; have BK404 := n3_; have HB := n4_; clear n0_ n1_ n2_ n3_ n4_; (try clear hb); (try clear hb2); (try clear hk); (try clear hi); have hcz25_0 : w24.cell? ⟨gb404, 0, none⟩ = some (.int .i64 t390) := (blk_cell BK404.out 0).trans rfl; have hcz25_1 : w24.cell? ⟨gb404, 1, none⟩ = some (.int .i64 t391) := (blk_cell BK404.out 1).trans rfl; have hcz25_2 : w24.cell? ⟨gb404, 2, none⟩ = some (.int .i64 t392) := (blk_cell BK404.out 2).trans rfl; have hcz25_3 : w24.cell? ⟨gb404, 3, none⟩ = some (.int .i64 t393) := (blk_cell BK404.out 3).trans rfl; have hcz25_4 : w24.cell? ⟨gb404, 4, none⟩ = some (.slice Ao11 t394.length co11) := (blk_cell BK404.out 4).trans rfl; have hcz25_5 : w24.cell? ⟨gb404, 5, none⟩ = some (.slice Ao12 t397.length co12) := (blk_cell BK404.out 5).trans rfl; have hcz25_6 : w24.cell? ⟨gb404, 6, none⟩ = some (.slice Ao13 t400.length co13) := (blk_cell BK404.out 6).trans rfl; have hfz25_0 := blk_frozen BK404.out 0; have hfz25_1 := blk_frozen BK404.out 1; have hfz25_2 := blk_frozen BK404.out 2; have hfz25_3 := blk_frozen BK404.out 3; have hfz25_4 := blk_frozen BK404.out 4; have hfz25_5 := blk_frozen BK404.out 5; have hfz25_6 := blk_frozen BK404.out 6))
        (first | go_meet | (refine Met.intro ?_; go_step; (repeat apply Exists.intro); refine ⟨?rel, ?eqs⟩; case eqs => ((try rw [show (!true) = true from by assumption]); (try rw [show (!true) = false from by assumption]); (try rw [show (t390 == 0) = true from by assumption]); (try rw [show (t390 == 0) = false from by assumption]); (try rfl))))
        case rel => exact ⟨_, (true), Z14x13, H', ⟨by have := HJ6.out; first | omega | exact Nat.le_refl _⟩, ⟨Z14x2⟩, ⟨Z14x3⟩, ⟨Z14x4⟩, ⟨Z14x1⟩, ⟨Z14x0⟩⟩
       ·rw [if_neg c22] at H
        have c22b0 : (t390 == 0) = false := beq_eq_false_iff_ne.mpr c22
        have c22b1 : (t390 != 0) = true := bne_iff_ne.mpr c22
        (first | rw [c22b0] | (simp only [i64_w, i32_w]; rw [c22b0]) | rw [c22b1] | rw [c22b2] | rw [c22b3] | skip)
        by_cases c26 : t403 < 1
        ·rw [if_pos c26] at H
         have c26b0 : decide (t403 < 1) = true := decide_eq_true c26
         clear c26
         have H' := Aside0.mk H
         clear H
         have hcz27_0 : wc.cell? ⟨gb404, 0, none⟩ = some (.int .i64 t390) := (blk_cell BK404.out 0).trans rfl
         have hcz27_1 : wc.cell? ⟨gb404, 1, none⟩ = some (.int .i64 t391) := (blk_cell BK404.out 1).trans rfl
         have hcz27_2 : wc.cell? ⟨gb404, 2, none⟩ = some (.int .i64 t392) := (blk_cell BK404.out 2).trans rfl
         have hcz27_3 : wc.cell? ⟨gb404, 3, none⟩ = some (.int .i64 t393) := (blk_cell BK404.out 3).trans rfl
         have hcz27_4 : wc.cell? ⟨gb404, 4, none⟩ = some (.slice Ao11 t394.length co11) := (blk_cell BK404.out 4).trans rfl
         have hcz27_5 : wc.cell? ⟨gb404, 5, none⟩ = some (.slice Ao12 t397.length co12) := (blk_cell BK404.out 5).trans rfl
         have hcz27_6 : wc.cell? ⟨gb404, 6, none⟩ = some (.slice Ao13 t400.length co13) := (blk_cell BK404.out 6).trans rfl
         have hfz27_0 := blk_frozen BK404.out 0
         have hfz27_1 := blk_frozen BK404.out 1
         have hfz27_2 := blk_frozen BK404.out 2
         have hfz27_3 := blk_frozen BK404.out 3
         have hfz27_4 := blk_frozen BK404.out 4
         have hfz27_5 := blk_frozen BK404.out 5
         have hfz27_6 := blk_frozen BK404.out 6
         go_wp2_with (first | ((with_reducible refine gate_callee (f := 39) rfl ?_); refine goesL_ (some 44) rfl rfl Try.func39 (by kernel_rfl) rfl #[.agg #[.int .i64 t390, .int .i64 t391, .int .i64 t392, .int .i64 t393, .slice Ao11 t394.length co11, .slice Ao12 t397.length co12, .slice Ao13 t400.length co13]] rfl Z14x5 ?_; (with_reducible refine (spec_SketchOk.calls kj6 t390 t391 t392 t393 _ _ t394 _ _ t397 _ _ t400 true _ ?side1 ?side2 ?side3 ?side4 ?side5 ?side6 A20.out).mono ?_); (case side1 => exact Z14x10); (case side2 => exact (Kd.R_reads' HO_405004.out).2.1); (case side3 => exact Z14x11); (case side4 => exact (Kd.R_reads' HO_405005.out).2.1); (case side5 => exact Z14x12); (case side6 => exact (Kd.S_reads' HO_405006.out).2.1); rintro e w28 ⟨rfl, hb⟩; refine ⟨_, rfl, ?_⟩; have n0_ := Aside0.mk (Kd.R_below Z14x2 hb); have n1_ := Aside0.mk (Kd.R_below Z14x3 hb); have n2_ := Aside0.mk (Kd.S_below Z14x4 hb); have n3_ := Aside0.mk (blk_below (g := gb404) (o := .cells #[.int .i64 t390, .int .i64 t391, .int .i64 t392, .int .i64 t393, .slice Ao11 t394.length co11, .slice Ao12 t397.length co12, .slice Ao13 t400.length co13] 26 (0, 0)) Z14x1 hb); have n4_ := Aside0.mk (below_step Z14x0 hb); clear HO_405004; clear HO_405005; clear HO_405006; clear BK404; clear HB; have HO_405004 := n0_; have HO_405005 := n1_; have HO_405006 := n2_; have BK404 := n3_; have HB := n4_; clear n0_ n1_ n2_ n3_ n4_; (try clear hb); (try clear hb2); (try clear hk); (try clear hi); have hcz29_0 : w28.cell? ⟨gb404, 0, none⟩ = some (.int .i64 t390) := (blk_cell BK404.out 0).trans rfl; have hcz29_1 : w28.cell? ⟨gb404, 1, none⟩ = some (.int .i64 t391) := (blk_cell BK404.out 1).trans rfl; have hcz29_2 : w28.cell? ⟨gb404, 2, none⟩ = some (.int .i64 t392) := (blk_cell BK404.out 2).trans rfl; have hcz29_3 : w28.cell? ⟨gb404, 3, none⟩ = some (.int .i64 t393) := (blk_cell BK404.out 3).trans rfl; have hcz29_4 : w28.cell? ⟨gb404, 4, none⟩ = some (.slice Ao11 t394.length co11) := (blk_cell BK404.out 4).trans rfl; have hcz29_5 : w28.cell? ⟨gb404, 5, none⟩ = some (.slice Ao12 t397.length co12) := (blk_cell BK404.out 5).trans rfl; have hcz29_6 : w28.cell? ⟨gb404, 6, none⟩ = some (.slice Ao13 t400.length co13) := (blk_cell BK404.out 6).trans rfl; have hfz29_0 := blk_frozen BK404.out 0; have hfz29_1 := blk_frozen BK404.out 1; have hfz29_2 := blk_frozen BK404.out 2; have hfz29_3 := blk_frozen BK404.out 3; have hfz29_4 := blk_frozen BK404.out 4; have hfz29_5 := blk_frozen BK404.out 5; have hfz29_6 := blk_frozen BK404.out 6))
         (first | go_meet | (refine Met.intro ?_; go_step; (repeat apply Exists.intro); refine ⟨?rel, ?eqs⟩; case eqs => ((try rw [show (!true) = true from by assumption]); (try rw [show (!true) = false from by assumption]); (try rw [show (t390 == 0) = true from by assumption]); (try rw [show (t390 == 0) = false from by assumption]); (try rw [show (decide (t403 < 1)) = true from by assumption]); (try rw [show (decide (t403 < 1)) = false from by assumption]); (try rfl))))
         case rel => exact ⟨_, (true), Z14x13, H', ⟨by have := HJ6.out; first | omega | exact Nat.le_refl _⟩, ⟨Z14x2⟩, ⟨Z14x3⟩, ⟨Z14x4⟩, ⟨Z14x1⟩, ⟨Z14x0⟩⟩
        ·rw [if_neg c26] at H
         have c26b0 : decide (t403 < 1) = false := decide_eq_false c26
         clear c26
         have H' := Aside0.mk H
         clear H
         have hcz30_0 : wc.cell? ⟨gb404, 0, none⟩ = some (.int .i64 t390) := (blk_cell BK404.out 0).trans rfl
         have hcz30_1 : wc.cell? ⟨gb404, 1, none⟩ = some (.int .i64 t391) := (blk_cell BK404.out 1).trans rfl
         have hcz30_2 : wc.cell? ⟨gb404, 2, none⟩ = some (.int .i64 t392) := (blk_cell BK404.out 2).trans rfl
         have hcz30_3 : wc.cell? ⟨gb404, 3, none⟩ = some (.int .i64 t393) := (blk_cell BK404.out 3).trans rfl
         have hcz30_4 : wc.cell? ⟨gb404, 4, none⟩ = some (.slice Ao11 t394.length co11) := (blk_cell BK404.out 4).trans rfl
         have hcz30_5 : wc.cell? ⟨gb404, 5, none⟩ = some (.slice Ao12 t397.length co12) := (blk_cell BK404.out 5).trans rfl
         have hcz30_6 : wc.cell? ⟨gb404, 6, none⟩ = some (.slice Ao13 t400.length co13) := (blk_cell BK404.out 6).trans rfl
         have hfz30_0 := blk_frozen BK404.out 0
         have hfz30_1 := blk_frozen BK404.out 1
         have hfz30_2 := blk_frozen BK404.out 2
         have hfz30_3 := blk_frozen BK404.out 3
         have hfz30_4 := blk_frozen BK404.out 4
         have hfz30_5 := blk_frozen BK404.out 5
         have hfz30_6 := blk_frozen BK404.out 6
         go_wp2_with (first | ((with_reducible refine gate_callee (f := 39) rfl ?_); refine goesL_ (some 44) rfl rfl Try.func39 (by kernel_rfl) rfl #[.agg #[.int .i64 t390, .int .i64 t391, .int .i64 t392, .int .i64 t393, .slice Ao11 t394.length co11, .slice Ao12 t397.length co12, .slice Ao13 t400.length co13]] rfl Z14x5 ?_; (with_reducible refine (spec_SketchOk.calls kj6 t390 t391 t392 t393 _ _ t394 _ _ t397 _ _ t400 true _ ?side1 ?side2 ?side3 ?side4 ?side5 ?side6 A20.out).mono ?_); (case side1 => exact Z14x10); (case side2 => exact (Kd.R_reads' HO_405004.out).2.1); (case side3 => exact Z14x11); (case side4 => exact (Kd.R_reads' HO_405005.out).2.1); (case side5 => exact Z14x12); (case side6 => exact (Kd.S_reads' HO_405006.out).2.1); rintro e w31 ⟨rfl, hb⟩; refine ⟨_, rfl, ?_⟩; have n0_ := Aside0.mk (Kd.R_below Z14x2 hb); have n1_ := Aside0.mk (Kd.R_below Z14x3 hb); have n2_ := Aside0.mk (Kd.S_below Z14x4 hb); have n3_ := Aside0.mk (blk_below (g := gb404) (o := .cells #[.int .i64 t390, .int .i64 t391, .int .i64 t392, .int .i64 t393, .slice Ao11 t394.length co11, .slice Ao12 t397.length co12, .slice Ao13 t400.length co13] 26 (0, 0)) Z14x1 hb); have n4_ := Aside0.mk (below_step Z14x0 hb); clear HO_405004; clear HO_405005; clear HO_405006; clear BK404; clear HB; have HO_405004 := n0_; have HO_405005 := n1_; have HO_405006 := n2_; have BK404 := n3_; have HB := n4_; clear n0_ n1_ n2_ n3_ n4_; (try clear hb); (try clear hb2); (try clear hk); (try clear hi); have hcz32_0 : w31.cell? ⟨gb404, 0, none⟩ = some (.int .i64 t390) := (blk_cell BK404.out 0).trans rfl; have hcz32_1 : w31.cell? ⟨gb404, 1, none⟩ = some (.int .i64 t391) := (blk_cell BK404.out 1).trans rfl; have hcz32_2 : w31.cell? ⟨gb404, 2, none⟩ = some (.int .i64 t392) := (blk_cell BK404.out 2).trans rfl; have hcz32_3 : w31.cell? ⟨gb404, 3, none⟩ = some (.int .i64 t393) := (blk_cell BK404.out 3).trans rfl; have hcz32_4 : w31.cell? ⟨gb404, 4, none⟩ = some (.slice Ao11 t394.length co11) := (blk_cell BK404.out 4).trans rfl; have hcz32_5 : w31.cell? ⟨gb404, 5, none⟩ = some (.slice Ao12 t397.length co12) := (blk_cell BK404.out 5).trans rfl; have hcz32_6 : w31.cell? ⟨gb404, 6, none⟩ = some (.slice Ao13 t400.length co13) := (blk_cell BK404.out 6).trans rfl; have hfz32_0 := blk_frozen BK404.out 0; have hfz32_1 := blk_frozen BK404.out 1; have hfz32_2 := blk_frozen BK404.out 2; have hfz32_3 := blk_frozen BK404.out 3; have hfz32_4 := blk_frozen BK404.out 4; have hfz32_5 := blk_frozen BK404.out 5; have hfz32_6 := blk_frozen BK404.out 6))
         (first | go_meet | (refine Met.intro ?_; go_step; (repeat apply Exists.intro); refine ⟨?rel, ?eqs⟩; case eqs => ((try rw [show (!true) = true from by assumption]); (try rw [show (!true) = false from by assumption]); (try rw [show (t390 == 0) = true from by assumption]); (try rw [show (t390 == 0) = false from by assumption]); (try rw [show (decide (t403 < 1)) = true from by assumption]); (try rw [show (decide (t403 < 1)) = false from by assumption]); (try rw [show (decide (t403 > 1000)) = true from by assumption]); (try rw [show (decide (t403 > 1000)) = false from by assumption]); (try rfl))))
         case rel => exact ⟨_, (decide (t403 > 1000)), Z14x13, H', ⟨by have := HJ6.out; first | omega | exact Nat.le_refl _⟩, ⟨Z14x2⟩, ⟨Z14x3⟩, ⟨Z14x4⟩, ⟨Z14x1⟩, ⟨Z14x0⟩⟩
      ·replace c21 := Bool.eq_false_iff.mpr c21
       subst c21
       have H1 : (laws_FnQuantiles.j1 kj6 t403 t405 t406 true t390 t391 t392 t393 t394 t397 t400) = some r := by rw [if_neg (show ¬ (false = true) by decide)] at H; exact H
       clear H
       have H := H1
       clear H1
       have H' := Aside0.mk H
       clear H
       have hcz33_0 : wc.cell? ⟨gb404, 0, none⟩ = some (.int .i64 t390) := (blk_cell BK404.out 0).trans rfl
       have hcz33_1 : wc.cell? ⟨gb404, 1, none⟩ = some (.int .i64 t391) := (blk_cell BK404.out 1).trans rfl
       have hcz33_2 : wc.cell? ⟨gb404, 2, none⟩ = some (.int .i64 t392) := (blk_cell BK404.out 2).trans rfl
       have hcz33_3 : wc.cell? ⟨gb404, 3, none⟩ = some (.int .i64 t393) := (blk_cell BK404.out 3).trans rfl
       have hcz33_4 : wc.cell? ⟨gb404, 4, none⟩ = some (.slice Ao11 t394.length co11) := (blk_cell BK404.out 4).trans rfl
       have hcz33_5 : wc.cell? ⟨gb404, 5, none⟩ = some (.slice Ao12 t397.length co12) := (blk_cell BK404.out 5).trans rfl
       have hcz33_6 : wc.cell? ⟨gb404, 6, none⟩ = some (.slice Ao13 t400.length co13) := (blk_cell BK404.out 6).trans rfl
       have hfz33_0 := blk_frozen BK404.out 0
       have hfz33_1 := blk_frozen BK404.out 1
       have hfz33_2 := blk_frozen BK404.out 2
       have hfz33_3 := blk_frozen BK404.out 3
       have hfz33_4 := blk_frozen BK404.out 4
       have hfz33_5 := blk_frozen BK404.out 5
       have hfz33_6 := blk_frozen BK404.out 6
       go_wp2_with (first | ((with_reducible refine gate_callee (f := 39) rfl ?_); refine goesL_ (some 44) rfl rfl Try.func39 (by kernel_rfl) rfl #[.agg #[.int .i64 t390, .int .i64 t391, .int .i64 t392, .int .i64 t393, .slice Ao11 t394.length co11, .slice Ao12 t397.length co12, .slice Ao13 t400.length co13]] rfl Z14x5 ?_; (with_reducible refine (spec_SketchOk.calls kj6 t390 t391 t392 t393 _ _ t394 _ _ t397 _ _ t400 false _ ?side1 ?side2 ?side3 ?side4 ?side5 ?side6 A20.out).mono ?_); (case side1 => exact Z14x10); (case side2 => exact (Kd.R_reads' HO_405004.out).2.1); (case side3 => exact Z14x11); (case side4 => exact (Kd.R_reads' HO_405005.out).2.1); (case side5 => exact Z14x12); (case side6 => exact (Kd.S_reads' HO_405006.out).2.1); rintro e w34 ⟨rfl, hb⟩; refine ⟨_, rfl, ?_⟩; have n0_ := Aside0.mk (Kd.R_below Z14x2 hb); have n1_ := Aside0.mk (Kd.R_below Z14x3 hb); have n2_ := Aside0.mk (Kd.S_below Z14x4 hb); have n3_ := Aside0.mk (blk_below (g := gb404) (o := .cells #[.int .i64 t390, .int .i64 t391, .int .i64 t392, .int .i64 t393, .slice Ao11 t394.length co11, .slice Ao12 t397.length co12, .slice Ao13 t400.length co13] 26 (0, 0)) Z14x1 hb); have n4_ := Aside0.mk (below_step Z14x0 hb); clear HO_405004; clear HO_405005; clear HO_405006; clear BK404; clear HB; have HO_405004 := n0_; have HO_405005 := n1_; have HO_405006 := n2_; have BK404 := n3_; have HB := n4_; clear n0_ n1_ n2_ n3_ n4_; (try clear hb); (try clear hb2); (try clear hk); (try clear hi)))
       (first | go_meet | (refine Met.intro ?_; go_step; (repeat apply Exists.intro); refine ⟨?rel, ?eqs⟩; case eqs => ((try rw [show (!false) = true from by assumption]); (try rw [show (!false) = false from by assumption]); (try rfl))))
       case rel => exact ⟨_, (true), Z14x13, H', ⟨by have := HJ6.out; first | omega | exact Nat.le_refl _⟩, ⟨Z14x2⟩, ⟨Z14x3⟩, ⟨Z14x4⟩, ⟨Z14x1⟩, ⟨Z14x0⟩⟩
     case rest =>
      clear HC19
      try clear c1
      try clear c2
      try clear p2
      try clear c3
      try clear c8
      try clear c17
      try clear c17b0
      try clear c17b1
      try clear c17b2
      try clear c18
      try clear c21
      try clear c22
      try clear c22b0
      try clear c22b1
      try clear c22b2
      try clear c26
      try clear c26b0
      try clear c30
      try clear hcz10_0
      try clear hcz10_1
      try clear hcz10_2
      try clear hcz10_3
      try clear hcz10_4
      try clear hcz10_5
      try clear hcz10_6
      try clear hcz15_0
      try clear hcz15_1
      try clear hcz15_2
      try clear hcz15_3
      try clear hcz15_4
      try clear hcz15_5
      try clear hcz15_6
      try clear hcz23_0
      try clear hcz23_1
      try clear hcz23_2
      try clear hcz23_3
      try clear hcz23_4
      try clear hcz23_5
      try clear hcz23_6
      try clear hcz25_0
      try clear hcz25_1
      try clear hcz25_2
      try clear hcz25_3
      try clear hcz25_4
      try clear hcz25_5
      try clear hcz25_6
      try clear hcz27_0
      try clear hcz27_1
      try clear hcz27_2
      try clear hcz27_3
      try clear hcz27_4
      try clear hcz27_5
      try clear hcz27_6
      try clear hcz29_0
      try clear hcz29_1
      try clear hcz29_2
      try clear hcz29_3
      try clear hcz29_4
      try clear hcz29_5
      try clear hcz29_6
      try clear hcz30_0
      try clear hcz30_1
      try clear hcz30_2
      try clear hcz30_3
      try clear hcz30_4
      try clear hcz30_5
      try clear hcz30_6
      try clear hcz32_0
      try clear hcz32_1
      try clear hcz32_2
      try clear hcz32_3
      try clear hcz32_4
      try clear hcz32_5
      try clear hcz32_6
      try clear hcz33_0
      try clear hcz33_1
      try clear hcz33_2
      try clear hcz33_3
      try clear hcz33_4
      try clear hcz33_5
      try clear hcz33_6
      try clear hfz10_0
      try clear hfz10_1
      try clear hfz10_2
      try clear hfz10_3
      try clear hfz10_4
      try clear hfz10_5
      try clear hfz10_6
      try clear hfz15_0
      try clear hfz15_1
      try clear hfz15_2
      try clear hfz15_3
      try clear hfz15_4
      try clear hfz15_5
      try clear hfz15_6
      try clear hfz23_0
      try clear hfz23_1
      try clear hfz23_2
      try clear hfz23_3
      try clear hfz23_4
      try clear hfz23_5
      try clear hfz23_6
      try clear hfz25_0
      try clear hfz25_1
      try clear hfz25_2
      try clear hfz25_3
      try clear hfz25_4
      try clear hfz25_5
      try clear hfz25_6
      try clear hfz27_0
      try clear hfz27_1
      try clear hfz27_2
      try clear hfz27_3
      try clear hfz27_4
      try clear hfz27_5
      try clear hfz27_6
      try clear hfz29_0
      try clear hfz29_1
      try clear hfz29_2
      try clear hfz29_3
      try clear hfz29_4
      try clear hfz29_5
      try clear hfz29_6
      try clear hfz30_0
      try clear hfz30_1
      try clear hfz30_2
      try clear hfz30_3
      try clear hfz30_4
      try clear hfz30_5
      try clear hfz30_6
      try clear hfz32_0
      try clear hfz32_1
      try clear hfz32_2
      try clear hfz32_3
      try clear hfz32_4
      try clear hfz32_5
      try clear hfz32_6
      try clear hfz33_0
      try clear hfz33_1
      try clear hfz33_2
      try clear hfz33_3
      try clear hfz33_4
      try clear hfz33_5
      try clear hfz33_6
      try clear p2
      obtain ⟨kq, x58_18, rfl, HA, HJ18, HO_405004, HO_405005, HO_405006, BK404, HB⟩ := hcut
      cases kq with
      | zero => exact absurd HA.out (by simp [laws_FnQuantiles.j1])
      | succ kj18 =>
       have H := HA.out
       clear HA
       simp only [laws_FnQuantiles.j1] at H
       by_cases c35 : x58_18 = true
       ·subst c35
        have H1 : (if t405 = 0 then (some (t406 == 0)) else (some false)) = some r := by rw [if_pos rfl] at H; exact H
        clear H
        have H := H1
        clear H1
        by_cases c36 : t405 = 0
        ·rw [if_pos c36] at H
         have c36b0 : (t405 == 0) = true := beq_iff_eq.mpr c36
         have c36b1 : (t405 != 0) = false := bne_eq_false_iff_eq.mpr c36
         clear c36
         obtain rfl := Option.some.inj H
         simp only [Option.some.injEq, Prod.mk.injEq] at H
         obtain ⟨rfl⟩ := H
         go_wp2
         go_ret
         exact ⟨Z14x19, Z14x0⟩
        ·rw [if_neg c36] at H
         have c36b0 : (t405 == 0) = false := beq_eq_false_iff_ne.mpr c36
         have c36b1 : (t405 != 0) = true := bne_iff_ne.mpr c36
         obtain rfl := Option.some.inj H
         exact absurd hrt.out (by decide)
       ·replace c35 := Bool.eq_false_iff.mpr c35
        subst c35
        have H1 : (laws_FnQuantiles.l0 kj18 t403 t405 t406 0 0 t390 t391 t392 t393 t394 t397 t400) = some r := by rw [if_neg (show ¬ (false = true) by decide)] at H; exact H
        clear H
        have H := H1
        clear H1
        have H' := Aside0.mk H
        clear H
        go_wp2
        go_loopg [9, 10] kj18 (fun kq v9 v10 w' => ∃ (x9_3 : Int) (x10_3 : Int), v9 = .int .i64 x9_3 ∧ v10 = .int .i64 x10_3 ∧ Aside0 (laws_FnQuantiles.l0 kq t403 t405 t406 x9_3 x10_3 t390 t391 t392 t393 t394 t397 t400 = some r) ∧ Aside0 (kq ≤ kj18) ∧ Aside0 (Kd.R (Kd.int .i64) 3 w' w.heap.size (fun k_ => some k_ ≠ ((.slice Ao12 t397.length co12) : Value).ownBlock) (.slice Ao11 t394.length co11) t394) ∧ Aside0 (Kd.R (Kd.int .i64) 3 w' w.heap.size (fun k_ => some k_ ≠ ((.slice Ao11 t394.length co11) : Value).ownBlock) (.slice Ao12 t397.length co12) t397) ∧ Aside0 (Kd.S (Kd.slice 3 (Kd.int .i64)) 23 w' w.heap.size (fun k_ => some k_ ≠ ((.slice Ao11 t394.length co11) : Value).ownBlock ∧ some k_ ≠ ((.slice Ao12 t397.length co12) : Value).ownBlock) (.slice Ao13 t400.length co13) t400) ∧ Aside0 (w'.heap[gb404]? = some (.cells #[.int .i64 t390, .int .i64 t391, .int .i64 t392, .int .i64 t393, (.slice Ao11 t394.length co11), (.slice Ao12 t397.length co12), (.slice Ao13 t400.length co13)] 26 (0, 0))) ∧ Aside0 (Below w.heap.size w w'))
        case atStart => exact ⟨(0), (0), Z14x13, Z14x13, H', ⟨Nat.le_refl _⟩, ⟨Z14x2⟩, ⟨Z14x3⟩, ⟨Z14x4⟩, ⟨Z14x1⟩, ⟨Z14x0⟩⟩
        case round =>
         clear H'
         try clear c1
         try clear c2
         try clear p2
         try clear c3
         try clear c8
         try clear c17
         try clear c17b0
         try clear c17b1
         try clear c17b2
         try clear c18
         try clear c21
         try clear c22
         try clear c22b0
         try clear c22b1
         try clear c22b2
         try clear c26
         try clear c26b0
         try clear c30
         try clear c35
         try clear c36
         try clear c36b0
         try clear c36b1
         try clear hcz10_0
         try clear hcz10_1
         try clear hcz10_2
         try clear hcz10_3
         try clear hcz10_4
         try clear hcz10_5
         try clear hcz10_6
         try clear hcz15_0
         try clear hcz15_1
         try clear hcz15_2
         try clear hcz15_3
         try clear hcz15_4
         try clear hcz15_5
         try clear hcz15_6
         try clear hcz23_0
         try clear hcz23_1
         try clear hcz23_2
         try clear hcz23_3
         try clear hcz23_4
         try clear hcz23_5
         try clear hcz23_6
         try clear hcz25_0
         try clear hcz25_1
         try clear hcz25_2
         try clear hcz25_3
         try clear hcz25_4
         try clear hcz25_5
         try clear hcz25_6
         try clear hcz27_0
         try clear hcz27_1
         try clear hcz27_2
         try clear hcz27_3
         try clear hcz27_4
         try clear hcz27_5
         try clear hcz27_6
         try clear hcz29_0
         try clear hcz29_1
         try clear hcz29_2
         try clear hcz29_3
         try clear hcz29_4
         try clear hcz29_5
         try clear hcz29_6
         try clear hcz30_0
         try clear hcz30_1
         try clear hcz30_2
         try clear hcz30_3
         try clear hcz30_4
         try clear hcz30_5
         try clear hcz30_6
         try clear hcz32_0
         try clear hcz32_1
         try clear hcz32_2
         try clear hcz32_3
         try clear hcz32_4
         try clear hcz32_5
         try clear hcz32_6
         try clear hcz33_0
         try clear hcz33_1
         try clear hcz33_2
         try clear hcz33_3
         try clear hcz33_4
         try clear hcz33_5
         try clear hcz33_6
         try clear hfz10_0
         try clear hfz10_1
         try clear hfz10_2
         try clear hfz10_3
         try clear hfz10_4
         try clear hfz10_5
         try clear hfz10_6
         try clear hfz15_0
         try clear hfz15_1
         try clear hfz15_2
         try clear hfz15_3
         try clear hfz15_4
         try clear hfz15_5
         try clear hfz15_6
         try clear hfz23_0
         try clear hfz23_1
         try clear hfz23_2
         try clear hfz23_3
         try clear hfz23_4
         try clear hfz23_5
         try clear hfz23_6
         try clear hfz25_0
         try clear hfz25_1
         try clear hfz25_2
         try clear hfz25_3
         try clear hfz25_4
         try clear hfz25_5
         try clear hfz25_6
         try clear hfz27_0
         try clear hfz27_1
         try clear hfz27_2
         try clear hfz27_3
         try clear hfz27_4
         try clear hfz27_5
         try clear hfz27_6
         try clear hfz29_0
         try clear hfz29_1
         try clear hfz29_2
         try clear hfz29_3
         try clear hfz29_4
         try clear hfz29_5
         try clear hfz29_6
         try clear hfz30_0
         try clear hfz30_1
         try clear hfz30_2
         try clear hfz30_3
         try clear hfz30_4
         try clear hfz30_5
         try clear hfz30_6
         try clear hfz32_0
         try clear hfz32_1
         try clear hfz32_2
         try clear hfz32_3
         try clear hfz32_4
         try clear hfz32_5
         try clear hfz32_6
         try clear hfz33_0
         try clear hfz33_1
         try clear hfz33_2
         try clear hfz33_3
         try clear hfz33_4
         try clear hfz33_5
         try clear hfz33_6
         try clear p2
         (try clear BK404)
         obtain ⟨x9_3, x10_3, rfl, rfl, HA, HK3, HO_405004, HO_405005, HO_405006, BK404, HB⟩ := hrel
         cases gk with
         | zero => exact absurd HA.out (by simp [laws_FnQuantiles.l0])
         | succ k3 =>
          have H := HA.out
          clear HA
          simp only [laws_FnQuantiles.l0] at H
          by_cases c37 : x10_3 < (t394.length : Int)
          ·rw [if_pos c37] at H
           have c37b0 : decide (x10_3 < (t394.length : Int)) = true := decide_eq_true c37
           clear c37
           by_cases c38 : 0 ≤ x10_3
           ·rw [if_pos c38] at H
            have c38b0 : decide (0 ≤ x10_3) = true := decide_eq_true c38
            clear c38
            have H' := Aside0.mk H
            clear H
            have hcz39_0 : wr.cell? ⟨gb404, 0, none⟩ = some (.int .i64 t390) := (blk_cell BK404.out 0).trans rfl
            have hcz39_1 : wr.cell? ⟨gb404, 1, none⟩ = some (.int .i64 t391) := (blk_cell BK404.out 1).trans rfl
            have hcz39_2 : wr.cell? ⟨gb404, 2, none⟩ = some (.int .i64 t392) := (blk_cell BK404.out 2).trans rfl
            have hcz39_3 : wr.cell? ⟨gb404, 3, none⟩ = some (.int .i64 t393) := (blk_cell BK404.out 3).trans rfl
            have hcz39_4 : wr.cell? ⟨gb404, 4, none⟩ = some (.slice Ao11 t394.length co11) := (blk_cell BK404.out 4).trans rfl
            have hcz39_5 : wr.cell? ⟨gb404, 5, none⟩ = some (.slice Ao12 t397.length co12) := (blk_cell BK404.out 5).trans rfl
            have hcz39_6 : wr.cell? ⟨gb404, 6, none⟩ = some (.slice Ao13 t400.length co13) := (blk_cell BK404.out 6).trans rfl
            have hfz39_0 := blk_frozen BK404.out 0
            have hfz39_1 := blk_frozen BK404.out 1
            have hfz39_2 := blk_frozen BK404.out 2
            have hfz39_3 := blk_frozen BK404.out 3
            have hfz39_4 := blk_frozen BK404.out 4
            have hfz39_5 := blk_frozen BK404.out 5
            have hfz39_6 := blk_frozen BK404.out 6
            have p410 : 0 ≤ (x10_3 : Int) := of_decide_eq_true Z14x14
            have q410 : x10_3 < (t394.length : Int) := of_decide_eq_true Z14x14
            obtain ⟨ad410, e410, hx410_0⟩ := Kd.at_int (Kd.R_reads' HO_405004.out).2.2 x10_3 p410 q410
            cases e410
            replace p410 := eq_true p410
            replace q410 := eq_true q410
            go_wp2
            go_roundg k3
            case measure => have := HJ6.out; have := HJ18.out; have := HK3.out; omega
            case rel => exact ⟨(wrap64 (x9_3 + (rd t394 x10_3))), (wrap64 (x10_3 + 1)), Z14x13, Z14x13, H', ⟨by have := HJ6.out; have := HJ18.out; have := HK3.out; omega⟩, ⟨Z14x2⟩, ⟨Z14x3⟩, ⟨Z14x4⟩, ⟨Z14x1⟩, ⟨Z14x0⟩⟩
           ·rw [if_neg c38] at H
            exact absurd H (by simp)
          ·rw [if_neg c37] at H
           have c37b0 : decide (x10_3 < (t394.length : Int)) = false := decide_eq_false c37
           clear c37
           by_cases c40 : x9_3 = 0
           ·rw [if_pos c40] at H
            have c40b0 : (x9_3 == 0) = true := beq_iff_eq.mpr c40
            have c40b1 : (x9_3 != 0) = false := bne_eq_false_iff_eq.mpr c40
            clear c40
            by_cases c41 : t405 = 0
            ·rw [if_pos c41] at H
             have c41b0 : (t405 == 0) = true := beq_iff_eq.mpr c41
             have c41b1 : (t405 != 0) = false := bne_eq_false_iff_eq.mpr c41
             clear c41
             obtain rfl := Option.some.inj H
             simp only [Option.some.injEq, Prod.mk.injEq] at H
             obtain ⟨rfl⟩ := H
             have hcz42_0 : wr.cell? ⟨gb404, 0, none⟩ = some (.int .i64 t390) := (blk_cell BK404.out 0).trans rfl
             have hcz42_1 : wr.cell? ⟨gb404, 1, none⟩ = some (.int .i64 t391) := (blk_cell BK404.out 1).trans rfl
             have hcz42_2 : wr.cell? ⟨gb404, 2, none⟩ = some (.int .i64 t392) := (blk_cell BK404.out 2).trans rfl
             have hcz42_3 : wr.cell? ⟨gb404, 3, none⟩ = some (.int .i64 t393) := (blk_cell BK404.out 3).trans rfl
             have hcz42_4 : wr.cell? ⟨gb404, 4, none⟩ = some (.slice Ao11 t394.length co11) := (blk_cell BK404.out 4).trans rfl
             have hcz42_5 : wr.cell? ⟨gb404, 5, none⟩ = some (.slice Ao12 t397.length co12) := (blk_cell BK404.out 5).trans rfl
             have hcz42_6 : wr.cell? ⟨gb404, 6, none⟩ = some (.slice Ao13 t400.length co13) := (blk_cell BK404.out 6).trans rfl
             have hfz42_0 := blk_frozen BK404.out 0
             have hfz42_1 := blk_frozen BK404.out 1
             have hfz42_2 := blk_frozen BK404.out 2
             have hfz42_3 := blk_frozen BK404.out 3
             have hfz42_4 := blk_frozen BK404.out 4
             have hfz42_5 := blk_frozen BK404.out 5
             have hfz42_6 := blk_frozen BK404.out 6
             go_wp2
             go_ret
             exact ⟨Z14x19, Z14x0⟩
            ·rw [if_neg c41] at H
             have c41b0 : (t405 == 0) = false := beq_eq_false_iff_ne.mpr c41
             have c41b1 : (t405 != 0) = true := bne_iff_ne.mpr c41
             obtain rfl := Option.some.inj H
             exact absurd hrt.out (by decide)
           ·rw [if_neg c40] at H
            have c40b0 : (x9_3 == 0) = false := beq_eq_false_iff_ne.mpr c40
            have c40b1 : (x9_3 != 0) = true := bne_iff_ne.mpr c40
            replace H := Option.bind_eq_some_iff.mp H
            obtain ⟨t411, A430, H⟩ := H
            replace H : (laws_FnQuantiles.l1 k3 t403 t405 t406 x9_3 t411 0 0 t390 t391 t392 t393 t394 t397 t400) = some r := H
            have A43 := Aside0.mk A430
            clear A430
            have H' := Aside0.mk H
            clear H
            have hcz44_0 : wr.cell? ⟨gb404, 0, none⟩ = some (.int .i64 t390) := (blk_cell BK404.out 0).trans rfl
            have hcz44_1 : wr.cell? ⟨gb404, 1, none⟩ = some (.int .i64 t391) := (blk_cell BK404.out 1).trans rfl
            have hcz44_2 : wr.cell? ⟨gb404, 2, none⟩ = some (.int .i64 t392) := (blk_cell BK404.out 2).trans rfl
            have hcz44_3 : wr.cell? ⟨gb404, 3, none⟩ = some (.int .i64 t393) := (blk_cell BK404.out 3).trans rfl
            have hcz44_4 : wr.cell? ⟨gb404, 4, none⟩ = some (.slice Ao11 t394.length co11) := (blk_cell BK404.out 4).trans rfl
            have hcz44_5 : wr.cell? ⟨gb404, 5, none⟩ = some (.slice Ao12 t397.length co12) := (blk_cell BK404.out 5).trans rfl
            have hcz44_6 : wr.cell? ⟨gb404, 6, none⟩ = some (.slice Ao13 t400.length co13) := (blk_cell BK404.out 6).trans rfl
            have hfz44_0 := blk_frozen BK404.out 0
            have hfz44_1 := blk_frozen BK404.out 1
            have hfz44_2 := blk_frozen BK404.out 2
            have hfz44_3 := blk_frozen BK404.out 3
            have hfz44_4 := blk_frozen BK404.out 4
            have hfz44_5 := blk_frozen BK404.out 5
            have hfz44_6 := blk_frozen BK404.out 6
            go_wp2_with (first | ((with_reducible refine gate_callee (f := 40) rfl ?_); refine goesL_ (some 88) rfl rfl Try.func40 (by kernel_rfl) rfl #[.int .i64 t405] rfl Z14x5 ?_; (with_reducible refine (impl_BucketOf.calls k3 t405 t411 _ A43.out).mono ?_); rintro e w45 ⟨rfl, hb⟩; refine ⟨_, rfl, ?_⟩; have n0_ := Aside0.mk (Kd.R_below Z14x2 hb); have n1_ := Aside0.mk (Kd.R_below Z14x3 hb); have n2_ := Aside0.mk (Kd.S_below Z14x4 hb); have n3_ := Aside0.mk (blk_below (g := gb404) (o := .cells #[.int .i64 t390, .int .i64 t391, .int .i64 t392, .int .i64 t393, .slice Ao11 t394.length co11, .slice Ao12 t397.length co12, .slice Ao13 t400.length co13] 26 (0, 0)) Z14x1 hb); have n4_ := Aside0.mk (below_step Z14x0 hb); clear HO_405004; clear HO_405005; clear HO_405006; clear BK404; clear HB; have HO_405004 := n0_; have HO_405005 := n1_; have HO_405006 := n2_; have BK404 := n3_; have HB := n4_; clear n0_ n1_ n2_ n3_ n4_; (try clear hb); (try clear hb2); (try clear hk); (try clear hi)))
            go_loopg [12, 13] k3 (fun kq v12 v13 w' => ∃ (x12_4 : Int) (x13_4 : Int), v12 = .int .i64 x12_4 ∧ v13 = .int .i64 x13_4 ∧ Aside0 (laws_FnQuantiles.l1 kq t403 t405 t406 x9_3 t411 x12_4 x13_4 t390 t391 t392 t393 t394 t397 t400 = some r) ∧ Aside0 (kq ≤ k3) ∧ Aside0 (Kd.R (Kd.int .i64) 3 w' w.heap.size (fun k_ => some k_ ≠ ((.slice Ao12 t397.length co12) : Value).ownBlock) (.slice Ao11 t394.length co11) t394) ∧ Aside0 (Kd.R (Kd.int .i64) 3 w' w.heap.size (fun k_ => some k_ ≠ ((.slice Ao11 t394.length co11) : Value).ownBlock) (.slice Ao12 t397.length co12) t397) ∧ Aside0 (Kd.S (Kd.slice 3 (Kd.int .i64)) 23 w' w.heap.size (fun k_ => some k_ ≠ ((.slice Ao11 t394.length co11) : Value).ownBlock ∧ some k_ ≠ ((.slice Ao12 t397.length co12) : Value).ownBlock) (.slice Ao13 t400.length co13) t400) ∧ Aside0 (w'.heap[gb404]? = some (.cells #[.int .i64 t390, .int .i64 t391, .int .i64 t392, .int .i64 t393, (.slice Ao11 t394.length co11), (.slice Ao12 t397.length co12), (.slice Ao13 t400.length co13)] 26 (0, 0))) ∧ Aside0 (Below w.heap.size w w'))
            case atStart => exact ⟨(0), (0), Z14x13, Z14x13, H', ⟨Nat.le_refl _⟩, ⟨Z14x2⟩, ⟨Z14x3⟩, ⟨Z14x4⟩, ⟨Z14x1⟩, ⟨Z14x0⟩⟩
            case round =>
             clear H'
             try clear c1
             try clear c2
             try clear p2
             try clear c3
             try clear c4
             try clear p4
             try clear q4
             try clear hx4
             try clear p6
             try clear c8
             try clear c17
             try clear c17b0
             try clear c17b1
             try clear c17b2
             try clear c18
             try clear c21
             try clear c22
             try clear c22b0
             try clear c22b1
             try clear c22b2
             try clear c26
             try clear c26b0
             try clear c30
             try clear c35
             try clear c36
             try clear c36b0
             try clear c36b1
             try clear c37
             try clear c37b0
             try clear c38
             try clear c38b0
             try clear c39
             try clear c40
             try clear c40b0
             try clear c40b1
             try clear c41
             try clear c41b0
             try clear c41b1
             try clear p41
             try clear q41
             try clear hx41
             try clear hcz10_0
             try clear hcz10_1
             try clear hcz10_2
             try clear hcz10_3
             try clear hcz10_4
             try clear hcz10_5
             try clear hcz10_6
             try clear hcz15_0
             try clear hcz15_1
             try clear hcz15_2
             try clear hcz15_3
             try clear hcz15_4
             try clear hcz15_5
             try clear hcz15_6
             try clear hcz23_0
             try clear hcz23_1
             try clear hcz23_2
             try clear hcz23_3
             try clear hcz23_4
             try clear hcz23_5
             try clear hcz23_6
             try clear hcz25_0
             try clear hcz25_1
             try clear hcz25_2
             try clear hcz25_3
             try clear hcz25_4
             try clear hcz25_5
             try clear hcz25_6
             try clear hcz27_0
             try clear hcz27_1
             try clear hcz27_2
             try clear hcz27_3
             try clear hcz27_4
             try clear hcz27_5
             try clear hcz27_6
             try clear hcz29_0
             try clear hcz29_1
             try clear hcz29_2
             try clear hcz29_3
             try clear hcz29_4
             try clear hcz29_5
             try clear hcz29_6
             try clear hcz30_0
             try clear hcz30_1
             try clear hcz30_2
             try clear hcz30_3
             try clear hcz30_4
             try clear hcz30_5
             try clear hcz30_6
             try clear hcz32_0
             try clear hcz32_1
             try clear hcz32_2
             try clear hcz32_3
             try clear hcz32_4
             try clear hcz32_5
             try clear hcz32_6
             try clear hcz33_0
             try clear hcz33_1
             try clear hcz33_2
             try clear hcz33_3
             try clear hcz33_4
             try clear hcz33_5
             try clear hcz33_6
             try clear hcz39_0
             try clear hcz39_1
             try clear hcz39_2
             try clear hcz39_3
             try clear hcz39_4
             try clear hcz39_5
             try clear hcz39_6
             try clear hcz42_0
             try clear hcz42_1
             try clear hcz42_2
             try clear hcz42_3
             try clear hcz42_4
             try clear hcz42_5
             try clear hcz42_6
             try clear hcz44_0
             try clear hcz44_1
             try clear hcz44_2
             try clear hcz44_3
             try clear hcz44_4
             try clear hcz44_5
             try clear hcz44_6
             try clear hfz10_0
             try clear hfz10_1
             try clear hfz10_2
             try clear hfz10_3
             try clear hfz10_4
             try clear hfz10_5
             try clear hfz10_6
             try clear hfz15_0
             try clear hfz15_1
             try clear hfz15_2
             try clear hfz15_3
             try clear hfz15_4
             try clear hfz15_5
             try clear hfz15_6
             try clear hfz23_0
             try clear hfz23_1
             try clear hfz23_2
             try clear hfz23_3
             try clear hfz23_4
             try clear hfz23_5
             try clear hfz23_6
             try clear hfz25_0
             try clear hfz25_1
             try clear hfz25_2
             try clear hfz25_3
             try clear hfz25_4
             try clear hfz25_5
             try clear hfz25_6
             try clear hfz27_0
             try clear hfz27_1
             try clear hfz27_2
             try clear hfz27_3
             try clear hfz27_4
             try clear hfz27_5
             try clear hfz27_6
             try clear hfz29_0
             try clear hfz29_1
             try clear hfz29_2
             try clear hfz29_3
             try clear hfz29_4
             try clear hfz29_5
             try clear hfz29_6
             try clear hfz30_0
             try clear hfz30_1
             try clear hfz30_2
             try clear hfz30_3
             try clear hfz30_4
             try clear hfz30_5
             try clear hfz30_6
             try clear hfz32_0
             try clear hfz32_1
             try clear hfz32_2
             try clear hfz32_3
             try clear hfz32_4
             try clear hfz32_5
             try clear hfz32_6
             try clear hfz33_0
             try clear hfz33_1
             try clear hfz33_2
             try clear hfz33_3
             try clear hfz33_4
             try clear hfz33_5
             try clear hfz33_6
             try clear hfz39_0
             try clear hfz39_1
             try clear hfz39_2
             try clear hfz39_3
             try clear hfz39_4
             try clear hfz39_5
             try clear hfz39_6
             try clear hfz42_0
             try clear hfz42_1
             try clear hfz42_2
             try clear hfz42_3
             try clear hfz42_4
             try clear hfz42_5
             try clear hfz42_6
             try clear hfz44_0
             try clear hfz44_1
             try clear hfz44_2
             try clear hfz44_3
             try clear hfz44_4
             try clear hfz44_5
             try clear hfz44_6
             try clear hx410_0
             try clear p2
             try clear p410
             try clear q410
             (try clear BK404)
             obtain ⟨x12_4, x13_4, rfl, rfl, HA, HK4, HO_405004, HO_405005, HO_405006, BK404, HB⟩ := hrel
             cases gk with
             | zero => exact absurd HA.out (by simp [laws_FnQuantiles.l1])
             | succ k4 =>
              have H := HA.out
              clear HA
              simp only [laws_FnQuantiles.l1] at H
              by_cases c46 : x13_4 ≤ t411
              ·rw [if_pos c46] at H
               have c46b0 : decide (x13_4 ≤ t411) = true := decide_eq_true c46
               clear c46
               by_cases c47 : 0 ≤ x13_4
               ·rw [if_pos c47] at H
                have c47b0 : decide (0 ≤ x13_4) = true := decide_eq_true c47
                clear c47
                by_cases c48 : x13_4 < (t394.length : Int)
                ·rw [if_pos c48] at H
                 have c48b0 : decide (x13_4 < (t394.length : Int)) = true := decide_eq_true c48
                 clear c48
                 have H' := Aside0.mk H
                 clear H
                 have hcz49_0 : wr.cell? ⟨gb404, 0, none⟩ = some (.int .i64 t390) := (blk_cell BK404.out 0).trans rfl
                 have hcz49_1 : wr.cell? ⟨gb404, 1, none⟩ = some (.int .i64 t391) := (blk_cell BK404.out 1).trans rfl
                 have hcz49_2 : wr.cell? ⟨gb404, 2, none⟩ = some (.int .i64 t392) := (blk_cell BK404.out 2).trans rfl
                 have hcz49_3 : wr.cell? ⟨gb404, 3, none⟩ = some (.int .i64 t393) := (blk_cell BK404.out 3).trans rfl
                 have hcz49_4 : wr.cell? ⟨gb404, 4, none⟩ = some (.slice Ao11 t394.length co11) := (blk_cell BK404.out 4).trans rfl
                 have hcz49_5 : wr.cell? ⟨gb404, 5, none⟩ = some (.slice Ao12 t397.length co12) := (blk_cell BK404.out 5).trans rfl
                 have hcz49_6 : wr.cell? ⟨gb404, 6, none⟩ = some (.slice Ao13 t400.length co13) := (blk_cell BK404.out 6).trans rfl
                 have hfz49_0 := blk_frozen BK404.out 0
                 have hfz49_1 := blk_frozen BK404.out 1
                 have hfz49_2 := blk_frozen BK404.out 2
                 have hfz49_3 := blk_frozen BK404.out 3
                 have hfz49_4 := blk_frozen BK404.out 4
                 have hfz49_5 := blk_frozen BK404.out 5
                 have hfz49_6 := blk_frozen BK404.out 6
                 have p412 : 0 ≤ (x13_4 : Int) := of_decide_eq_true Z14x14
                 have q412 : x13_4 < (t394.length : Int) := of_decide_eq_true Z14x14
                 obtain ⟨ad412, e412, hx412_0⟩ := Kd.at_int (Kd.R_reads' HO_405004.out).2.2 x13_4 p412 q412
                 cases e412
                 replace p412 := eq_true p412
                 replace q412 := eq_true q412
                 go_wp2
                 go_roundg k4
                 case measure => have := HJ6.out; have := HJ18.out; have := HK3.out; have := HK4.out; omega
                 case rel => exact ⟨(wrap64 (x12_4 + (rd t394 x13_4))), (wrap64 (x13_4 + 1)), Z14x13, Z14x13, H', ⟨by have := HJ6.out; have := HJ18.out; have := HK3.out; have := HK4.out; omega⟩, ⟨Z14x2⟩, ⟨Z14x3⟩, ⟨Z14x4⟩, ⟨Z14x1⟩, ⟨Z14x0⟩⟩
                ·rw [if_neg c48] at H
                 exact absurd H (by simp)
               ·rw [if_neg c47] at H
                exact absurd H (by simp)
              ·rw [if_neg c46] at H
               have c46b0 : decide (x13_4 ≤ t411) = false := decide_eq_false c46
               clear c46
               replace H := Option.bind_eq_some_iff.mp H
               obtain ⟨⟨t413, t414⟩, A500, H⟩ := H
               replace H : (if (wrap64 (x12_4 * 1000)) ≥ (wrap64 (t403 * x9_3)) then (if 0 ≤ t411 then (if t411 < (t394.length : Int) then (if (rd t394 t411) > 0 then (if (wrap64 ((wrap64 (x12_4 - (rd t394 t411))) * 1000)) < (wrap64 (t403 * x9_3)) then (if t405 ≤ t406 then (some (decide (t413 ≥ t405))) else (some false)) else (some false)) else (some false)) else (none)) else (none)) else (some false)) = some r := H
               have A50 := Aside0.mk A500
               clear A500
               by_cases c51 : (wrap64 (x12_4 * 1000)) ≥ (wrap64 (t403 * x9_3))
               ·rw [if_pos c51] at H
                have c51b0 : decide ((wrap64 (t403 * x9_3)) ≤ (wrap64 (x12_4 * 1000))) = true := decide_eq_true c51
                (try (have c51b1 : decide ((IntKind.i64.wrap (t403 * x9_3)) ≤ (IntKind.i64.wrap (x12_4 * 1000))) = true := by simp only [i64_w]; first | exact decide_eq_true c51 | simpa using c51))
                clear c51
                by_cases c52 : 0 ≤ t411
                ·rw [if_pos c52] at H
                 have c52b0 : decide (0 ≤ t411) = true := decide_eq_true c52
                 clear c52
                 by_cases c53 : t411 < (t394.length : Int)
                 ·rw [if_pos c53] at H
                  have c53b0 : decide (t411 < (t394.length : Int)) = true := decide_eq_true c53
                  clear c53
                  by_cases c54 : (rd t394 t411) > 0
                  ·rw [if_pos c54] at H
                   have c54b0 : decide (0 < (rd t394 t411)) = true := decide_eq_true c54
                   clear c54
                   by_cases c55 : (wrap64 ((wrap64 (x12_4 - (rd t394 t411))) * 1000)) < (wrap64 (t403 * x9_3))
                   ·rw [if_pos c55] at H
                    have c55b0 : decide ((wrap64 ((wrap64 (x12_4 - (rd t394 t411))) * 1000)) < (wrap64 (t403 * x9_3))) = true := decide_eq_true c55
                    (try (have c55b1 : decide ((IntKind.i64.wrap ((IntKind.i64.wrap (x12_4 - (rd t394 t411))) * 1000)) < (IntKind.i64.wrap (t403 * x9_3))) = true := by simp only [i64_w]; first | exact decide_eq_true c55 | simpa using c55))
                    clear c55
                    by_cases c56 : t405 ≤ t406
                    ·rw [if_pos c56] at H
                     have c56b0 : decide (t405 ≤ t406) = true := decide_eq_true c56
                     clear c56
                     obtain rfl := Option.some.inj H
                     simp only [Option.some.injEq, Prod.mk.injEq] at H
                     obtain ⟨rfl⟩ := H
                     have hcz57_0 : wr.cell? ⟨gb404, 0, none⟩ = some (.int .i64 t390) := (blk_cell BK404.out 0).trans rfl
                     have hcz57_1 : wr.cell? ⟨gb404, 1, none⟩ = some (.int .i64 t391) := (blk_cell BK404.out 1).trans rfl
                     have hcz57_2 : wr.cell? ⟨gb404, 2, none⟩ = some (.int .i64 t392) := (blk_cell BK404.out 2).trans rfl
                     have hcz57_3 : wr.cell? ⟨gb404, 3, none⟩ = some (.int .i64 t393) := (blk_cell BK404.out 3).trans rfl
                     have hcz57_4 : wr.cell? ⟨gb404, 4, none⟩ = some (.slice Ao11 t394.length co11) := (blk_cell BK404.out 4).trans rfl
                     have hcz57_5 : wr.cell? ⟨gb404, 5, none⟩ = some (.slice Ao12 t397.length co12) := (blk_cell BK404.out 5).trans rfl
                     have hcz57_6 : wr.cell? ⟨gb404, 6, none⟩ = some (.slice Ao13 t400.length co13) := (blk_cell BK404.out 6).trans rfl
                     have hfz57_0 := blk_frozen BK404.out 0
                     have hfz57_1 := blk_frozen BK404.out 1
                     have hfz57_2 := blk_frozen BK404.out 2
                     have hfz57_3 := blk_frozen BK404.out 3
                     have hfz57_4 := blk_frozen BK404.out 4
                     have hfz57_5 := blk_frozen BK404.out 5
                     have hfz57_6 := blk_frozen BK404.out 6
                     go_wp2_with (first | ((with_reducible refine gate_callee (f := 37) rfl ?_); refine goesL_ (some 103) rfl rfl Try.func37 (by kernel_rfl) rfl #[.agg #[.int .i64 t390, .int .i64 t391, .int .i64 t392, .int .i64 t393, .slice Ao11 t394.length co11, .slice Ao12 t397.length co12, .slice Ao13 t400.length co13], .int .i64 1000] rfl Z14x5 ?_; (with_reducible refine (impl_Quantile.calls k4 t390 t391 t392 t393 _ _ t394 _ _ t397 _ _ t400 1000 t413 t414 _ ?side1 ?side2 ?side3 ?side4 ?side5 ?side6 A50.out).mono ?_); (case side1 => exact Z14x10); (case side2 => exact (Kd.R_reads' HO_405004.out).2.1); (case side3 => exact Z14x11); (case side4 => exact (Kd.R_reads' HO_405005.out).2.1); (case side5 => exact Z14x12); (case side6 => exact (Kd.S_reads' HO_405006.out).2.1); rintro e w58 ⟨rfl, hb⟩; refine ⟨_, rfl, ?_⟩; have n0_ := Aside0.mk (Kd.R_below Z14x2 hb); have n1_ := Aside0.mk (Kd.R_below Z14x3 hb); have n2_ := Aside0.mk (Kd.S_below Z14x4 hb); have n3_ := Aside0.mk (blk_below (g := gb404) (o := .cells #[.int .i64 t390, .int .i64 t391, .int .i64 t392, .int .i64 t393, .slice Ao11 t394.length co11, .slice Ao12 t397.length co12, .slice Ao13 t400.length co13] 26 (0, 0)) Z14x1 hb); have n4_ := Aside0.mk (below_step Z14x0 hb); clear HO_405004; clear HO_405005; clear HO_405006; clear BK404; clear HB; have HO_405004 := n0_; have HO_405005 := n1_; have HO_405006 := n2_; have BK404 := n3_; have HB := n4_; clear n0_ n1_ n2_ n3_ n4_; (try clear hb); (try clear hb2); (try clear hk); (try clear hi); have hcz59_0 : w58.cell? ⟨gb404, 0, none⟩ = some (.int .i64 t390) := (blk_cell BK404.out 0).trans rfl; have hcz59_1 : w58.cell? ⟨gb404, 1, none⟩ = some (.int .i64 t391) := (blk_cell BK404.out 1).trans rfl; have hcz59_2 : w58.cell? ⟨gb404, 2, none⟩ = some (.int .i64 t392) := (blk_cell BK404.out 2).trans rfl; have hcz59_3 : w58.cell? ⟨gb404, 3, none⟩ = some (.int .i64 t393) := (blk_cell BK404.out 3).trans rfl; have hcz59_4 : w58.cell? ⟨gb404, 4, none⟩ = some (.slice Ao11 t394.length co11) := (blk_cell BK404.out 4).trans rfl; have hcz59_5 : w58.cell? ⟨gb404, 5, none⟩ = some (.slice Ao12 t397.length co12) := (blk_cell BK404.out 5).trans rfl; have hcz59_6 : w58.cell? ⟨gb404, 6, none⟩ = some (.slice Ao13 t400.length co13) := (blk_cell BK404.out 6).trans rfl; have hfz59_0 := blk_frozen BK404.out 0; have hfz59_1 := blk_frozen BK404.out 1; have hfz59_2 := blk_frozen BK404.out 2; have hfz59_3 := blk_frozen BK404.out 3; have hfz59_4 := blk_frozen BK404.out 4; have hfz59_5 := blk_frozen BK404.out 5; have hfz59_6 := blk_frozen BK404.out 6; have p415 : 0 ≤ (t411 : Int) := of_decide_eq_true Z14x14; have q415 : t411 < (t394.length : Int) := of_decide_eq_true Z14x14; obtain ⟨ad415, e415, hx415_0⟩ := Kd.at_int (Kd.R_reads' HO_405004.out).2.2 t411 p415 q415; cases e415; replace p415 := eq_true p415; replace q415 := eq_true q415; have p416 : 0 ≤ (t411 : Int) := of_decide_eq_true Z14x14; have q416 : t411 < (t394.length : Int) := of_decide_eq_true Z14x14; obtain ⟨ad416, e416, hx416_0⟩ := Kd.at_int (Kd.R_reads' HO_405004.out).2.2 t411 p416 q416; obtain rfl : ad415 = ad416 := (by injection e416); replace p416 := eq_true p416; replace q416 := eq_true q416))
                     go_ret
                     exact ⟨Z14x19, Z14x0⟩
                    ·rw [if_neg c56] at H
                     have c56b0 : decide (t405 ≤ t406) = false := decide_eq_false c56
                     clear c56
                     obtain rfl := Option.some.inj H
                     exact absurd hrt.out (by decide)
                   ·rw [if_neg c55] at H
                    have c55b0 : decide ((wrap64 ((wrap64 (x12_4 - (rd t394 t411))) * 1000)) < (wrap64 (t403 * x9_3))) = false := decide_eq_false c55
                    (try (have c55b1 : decide ((IntKind.i64.wrap ((IntKind.i64.wrap (x12_4 - (rd t394 t411))) * 1000)) < (IntKind.i64.wrap (t403 * x9_3))) = false := by simp only [i64_w]; first | exact decide_eq_false c55 | simpa using c55))
                    clear c55
                    obtain rfl := Option.some.inj H
                    exact absurd hrt.out (by decide)
                  ·rw [if_neg c54] at H
                   have c54b0 : decide (0 < (rd t394 t411)) = false := decide_eq_false c54
                   clear c54
                   obtain rfl := Option.some.inj H
                   exact absurd hrt.out (by decide)
                 ·rw [if_neg c53] at H
                  exact absurd H (by simp)
                ·rw [if_neg c52] at H
                 exact absurd H (by simp)
               ·rw [if_neg c51] at H
                have c51b0 : decide ((wrap64 (t403 * x9_3)) ≤ (wrap64 (x12_4 * 1000))) = false := decide_eq_false c51
                (try (have c51b1 : decide ((IntKind.i64.wrap (t403 * x9_3)) ≤ (IntKind.i64.wrap (x12_4 * 1000))) = false := by simp only [i64_w]; first | exact decide_eq_false c51 | simpa using c51))
                clear c51
                obtain rfl := Option.some.inj H
                exact absurd hrt.out (by decide)

def laws_FnQuantiles.Pure : Prop := ∀ (l0 : List Int), l0.length ≤ maxLen → l0.length * 1 ≤ 140737488351232 → (∀ x ∈ l0, (Lit.int .u8 x).wf = true) → ∃ k, laws_FnQuantiles.f k l0 = some true
theorem laws_FnQuantiles.walk (P : laws_FnQuantiles.Pure) (a0 : Option Addr) (len0 cap0 : Nat) (z0 : List Int) (w : World) (w0 : (a0 = none ∧ len0 = 0 ∧ cap0 = 0 ∧ z0 = []) ∨ ∃ x, a0 = some x ∧ len0 ≤ cap0 ∧ cap0 ≤ maxLen ∧ z0.length = cap0 ∧ (∀ i, i < z0.length → w.cell? (x.add i) = some (.int .u8 (z0.getD i 0))) ∧ ∀ n ∈ z0, (Lit.int .u8 n).wf = true) (y0 : len0 * 1 ≤ 140737488351232) :
  Calls Try.prog 8 #[.slice a0 len0 cap0] w fun e w' => e = .returned (.bool true) ∧ Below w.heap.size w w' := by
 obtain ⟨l0, rfl, hr0, hm0, hw0, hc0⟩ := ReadsInt.ofRowC w0
 obtain ⟨k, h⟩ := P l0 hm0 y0 hw0
 refine (laws_FnQuantiles.calls k _ _ l0 true w (Kd.C_of_reads (d := (0 : Int)) (h1 := fun _ => rfl) hr0) hc0 ⟨rfl⟩ h).mono ?_
 rintro e w' ⟨rfl, hd⟩
 exact ⟨rfl, hd⟩

end Go.Proofs.Ytfknjoebomicnaa.PFnQuantiles
